import PyProof.Rows.All
import Wide.All
import OpenK.AllK
import Wide.FinOn
import HandS.ForMost
import HandS.ForExc
import HandS.Walk
import HandS.TupAny
import HandS.Deep
import HandS.IsInst
import HandS.Style
import HandS.Wide
import KE.DataCmp
import KE.SortData
import HandS.HeadHook1
import KE.KDictKeyed
import HandS.CallSlots
import HandS.TupLen
import HandS.More
import HandS.SortKw
import KE.DataMinKey
import HandS.Ends
import HandS.EndBits
import HandS.Defaults
import HandS.Head0
import HandS.Head1
import HandS.Head2
import HandS.HeadEnd
import HandS.HeadHook2
import HandS.HeadHook3
import HandS.HeadHook4
import KE.KStateDown
import KE.IntBitsLaws
import HandS.Zip
import PyProof.TupleOfSeq
import KE.GoesEnum
import KE.GoesMore
import KE.KDictZip
import KE.KDictList
import HandS.ExcInit
import HandS.HotCalls
import HandS.MakeKw
import KE.KExcIs
import KE.KDictPairs
import HandS.Text
import HandS.Replace
import HandS.RaiseMore
import HandS.SetKeys
import HandS.Iter
import HandS.TupMul
import KE.KRevSl
import HandS.Strs
import PyProof.P3In
import KE.GoesZip
import HandS.Conv
import KE.KDictCopyH
import KE.KDictSum
import PySem.Challenge.RW_fleethide_k22_whole_nets_and_ships_apart
set_option Elab.async false
set_option linter.all false
set_option maxRecDepth 100000
set_option maxHeartbeats 0
namespace Ev
open PySem PySem.Spec L2
open PyProof.Rows hiding St
def excNames : List Str := ["NoHiding", "NoNumber", "TooMany", "NoCell", "NoShot", "NothingLeft", "NoCounts", "Over", "NoText", "NoRow"]
end Ev
namespace K22
open PySem PySem.Spec L2 Ev
open PyProof.Rows hiding St
def topS (i : Nat) : Stmt := PySem.Challenge.pw_fleethide_k22_whole_nets_and_ships_apart.main.body.getD i (.Pass ⟨0, 0, 0, 0⟩)
abbrev s_cells_of : Stmt := topS 1
abbrev s_rows_of_ships : Stmt := topS 3
abbrev s_columns_of_ships : Stmt := topS 4
abbrev s_apart_ships : Stmt := topS 5
abbrev s_net_cells : Stmt := topS 6
abbrev s_net_of : Stmt := topS 7
abbrev s_least_net : Stmt := topS 8
abbrev s_is_net : Stmt := topS 9
abbrev s_lie_apart : Stmt := topS 10
abbrev s__law_stir : Stmt := topS 12
abbrev s__law_drawn : Stmt := topS 13
abbrev s__law_cells : Stmt := topS 14
abbrev s__law_runs : Stmt := topS 15
abbrev s__law_is_net : Stmt := topS 16
abbrev s__law_apart : Stmt := topS 17
abbrev s__law_sizes : Stmt := topS 18
abbrev s__law_ships_right : Stmt := topS 19
abbrev s_law : Stmt := topS 20
def dd_cells_of : He.DefD := ⟨("cells_of", none), "cells_of", "cells_of", defArgs s_cells_of, defBody s_cells_of, defScope s_cells_of, [], []⟩
def dd_rows_of_ships : He.DefD := ⟨("rows_of_ships", none), "rows_of_ships", "rows_of_ships", defArgs s_rows_of_ships, defBody s_rows_of_ships, defScope s_rows_of_ships, [], []⟩
def dd_columns_of_ships : He.DefD := ⟨("columns_of_ships", none), "columns_of_ships", "columns_of_ships", defArgs s_columns_of_ships, defBody s_columns_of_ships, defScope s_columns_of_ships, [], []⟩
def dd_apart_ships : He.DefD := ⟨("apart_ships", none), "apart_ships", "apart_ships", defArgs s_apart_ships, defBody s_apart_ships, defScope s_apart_ships, [], []⟩
def dd_net_cells : He.DefD := ⟨("net_cells", none), "net_cells", "net_cells", defArgs s_net_cells, defBody s_net_cells, defScope s_net_cells, [], []⟩
def dd_net_of : He.DefD := ⟨("net_of", none), "net_of", "net_of", defArgs s_net_of, defBody s_net_of, defScope s_net_of, [], []⟩
def dd_least_net : He.DefD := ⟨("least_net", none), "least_net", "least_net", defArgs s_least_net, defBody s_least_net, defScope s_least_net, [], []⟩
def dd_is_net : He.DefD := ⟨("is_net", none), "is_net", "is_net", defArgs s_is_net, defBody s_is_net, defScope s_is_net, [], []⟩
def dd_lie_apart : He.DefD := ⟨("lie_apart", none), "lie_apart", "lie_apart", defArgs s_lie_apart, defBody s_lie_apart, defScope s_lie_apart, [], []⟩
def dd__law_stir : He.DefD := ⟨("_law_stir", none), "_law_stir", "_law_stir", defArgs s__law_stir, defBody s__law_stir, defScope s__law_stir, [], []⟩
def dd__law_drawn : He.DefD := ⟨("_law_drawn", none), "_law_drawn", "_law_drawn", defArgs s__law_drawn, defBody s__law_drawn, defScope s__law_drawn, [], []⟩
def dd__law_cells : He.DefD := ⟨("_law_cells", none), "_law_cells", "_law_cells", defArgs s__law_cells, defBody s__law_cells, defScope s__law_cells, [], []⟩
def dd__law_runs : He.DefD := ⟨("_law_runs", none), "_law_runs", "_law_runs", defArgs s__law_runs, defBody s__law_runs, defScope s__law_runs, [], []⟩
def dd__law_is_net : He.DefD := ⟨("_law_is_net", none), "_law_is_net", "_law_is_net", defArgs s__law_is_net, defBody s__law_is_net, defScope s__law_is_net, [], []⟩
def dd__law_apart : He.DefD := ⟨("_law_apart", none), "_law_apart", "_law_apart", defArgs s__law_apart, defBody s__law_apart, defScope s__law_apart, [], []⟩
def dd__law_sizes : He.DefD := ⟨("_law_sizes", none), "_law_sizes", "_law_sizes", defArgs s__law_sizes, defBody s__law_sizes, defScope s__law_sizes, [], []⟩
def dd__law_ships_right : He.DefD := ⟨("_law_ships_right", none), "_law_ships_right", "_law_ships_right", defArgs s__law_ships_right, defBody s__law_ships_right, defScope s__law_ships_right, [], []⟩
def dd_law : He.DefD := ⟨("law", none), "law", "law", defArgs s_law, defBody s_law, defScope s_law, [], []⟩
def fnL : List He.DefD := [dd_cells_of, dd_rows_of_ships, dd_columns_of_ships, dd_apart_ships, dd_net_cells, dd_net_of, dd_least_net, dd_is_net, dd_lie_apart, dd__law_stir, dd__law_drawn, dd__law_cells, dd__law_runs, dd__law_is_net, dd__law_apart, dd__law_sizes, dd__law_ships_right, dd_law]
def faL : List He.Fa := [.glo "cells_of", .glo "rows_of_ships", .glo "columns_of_ships", .glo "apart_ships", .glo "net_cells", .glo "net_of", .glo "least_net", .glo "is_net", .glo "lie_apart", .glo "_law_stir", .glo "_law_drawn", .glo "_law_cells", .glo "_law_runs", .glo "_law_is_net", .glo "_law_apart", .glo "_law_sizes", .glo "_law_ships_right", .glo "law", .free "any", .free "dict", .free "int", .free "isinstance", .free "len", .free "list", .free "min", .free "range", .free "sorted", .free "tuple"]
def exL (K : PySem.W.Frag) : Bool := true
abbrev RW : PySem.W.OpenRow := PySem.W.OpenLaw.row PySem.Challenge.rw_fleethide_k22_whole_nets_and_ships_apart
abbrev hkL : PySem.W.Hook := He.hookX 5 faL fnL [] [] exL
def obL (s : PySem.W.SharedT) : He.AlX := He.obsX 5 faL fnL [] [] exL (HandSHeadRun.getT s)
theorem obL_eq (s : PySem.W.SharedT) : obL s = hkL.obs s.abs := He.obsX_eq (HandSHeadRun.getT_eq s)
def looseL : List Str := (["cells_of", "rows_of_ships", "columns_of_ships", "apart_ships", "net_cells", "net_of", "least_net", "is_net", "lie_apart", "_law_stir", "_law_drawn", "_law_cells", "_law_runs", "_law_is_net", "_law_apart", "_law_sizes", "_law_ships_right"] : List Str)
theorem runL (w : World) : HandSHeadRun.RunEq RW (PySem.W.view RW.prog [20]) hkL obL 1660 looseL w := by
  intro os
  kernel_rfl
end K22
namespace Ev
open PySem PySem.Spec L2
open PyProof.Rows hiding St
abbrev tupObj (its : List Value) : Obj := { cls := .type "tuple", data := .seq its.toArray }
structure Hg where
  h : Hp
  m : List Addr
abbrev Hg.on (G : Hg) (H : Hp) : Hg := ⟨H, G.m⟩
abbrev Hg.up (G : Hg) (a : Addr) (u : HO) : Hg := ⟨upd G.h a u, G.m⟩
def Ext (G G' : Hg) : Prop := (∀ a o, G.h a = some o → G'.h a = some o ∨ (((∃ kvs, o = .dK kvs) ∨ ∃ kvs, o = .dT kvs) ∧ ∃ ob, G'.h a = some (.frz ob o))) ∧ ∃ l, G'.m = G.m ++ l
def Same (G G' : Hg) : Prop := Ext G G'
section
variable {A B C G G' : Hg} {H H' : Hp}
theorem same_l2 {h' : Hp} (s : L2.Same G.h h') : Same G (G.on h') := And.intro (fun a o h => .inl (s a o h)) ⟨[], by simp⟩
theorem Ext.of (s : Same G G') : Ext G G' := s
theorem Ext.refl (G : Hg) : Ext G G := ⟨fun _ _ h => .inl h, [], by simp⟩
theorem Ext.mkOn (h : ∀ a o, G.h a = some o → H a = some o ∨ (((∃ kvs, o = .dK kvs) ∨ ∃ kvs, o = .dT kvs) ∧ ∃ ob, H a = some (.frz ob o))) : Ext G (G.on H) := ⟨h, [], by simp⟩
theorem Ext.trans (s : Ext A B) (e : Ext B C) : Ext A C := by
 refine ⟨fun a o h => ?_, ?_⟩
 · rcases s.1 a o h with z | ⟨d, ob, z⟩
   · exact e.1 a o z
   · rcases e.1 a _ z with y | ⟨(⟨kvs, q⟩ | ⟨kvs, q⟩), _⟩
     · exact .inr ⟨d, ob, y⟩
     · cases q
     · cases q
 · obtain ⟨l, h1⟩ := s.2
   obtain ⟨l', h2⟩ := e.2
   exact ⟨l ++ l', by rw [h2, h1, List.append_assoc]⟩
theorem Same.refl (G : Hg) : Same G G := Ext.refl G
theorem Same.trans (s : Same A B) (e : Same B C) : Same A C := Ext.trans s e
theorem Same.ext (s : Same A B) (e : Ext B C) : Ext A C := Ext.trans s e
theorem Ext.none (e : Ext G G') {a : Addr} (h : G'.h a = none) : G.h a = none := by
  cases q : G.h a with
  | none => rfl
  | some o =>
    rcases e.1 a o q with z | ⟨_, ob, z⟩ <;> rw [h] at z <;> cases z
theorem Ext.rd (e : Ext G G') {a : Addr} {u : HO} (h : Rd G.h a u) : Rd G'.h a u := by
  rcases h with h | ⟨o, h⟩
  · rcases e.1 a _ h with z | ⟨_, ob, z⟩
    · exact .inl z
    · exact .inr ⟨ob, z⟩
  · rcases e.1 a _ h with z | ⟨(⟨kvs, q⟩ | ⟨kvs, q⟩), ob, z⟩
    · exact .inr ⟨o, z⟩
    · cases q
    · cases q
theorem Ext.tup (e : Ext G G') {a : Addr} {xs : List V} (h : G.h a = some (.tup xs)) : G'.h a = some (.tup xs) := by
  rcases e.1 a _ h with z | ⟨(⟨kvs, q⟩ | ⟨kvs, q⟩), ob, z⟩
  · exact z
  · cases q
  · cases q
theorem Ext.frz (e : Ext G G') {a : Addr} {ob : Obj} {u : HO} (h : G.h a = some (.frz ob u)) : G'.h a = some (.frz ob u) := by
  rcases e.1 a _ h with z | ⟨(⟨kvs, q⟩ | ⟨kvs, q⟩), ob, z⟩
  · exact z
  · cases q
  · cases q
theorem Ext.sqT {K : PySem.W.Frag} (e : Ext G G') {a : Addr} {xs : List V} (h : SqT K G.h a xs) : SqT K G'.h a xs := by
  rcases h with h | h
  · exact .inl (e.rd h)
  · exact .inr h
theorem Ext.sqL {K : PySem.W.Frag} (e : Ext G G') {a : Addr} {xs : List V} (h : SqL K G.h a xs) : SqL K G'.h a xs := by
  rcases h with h | h
  · exact .inl (e.rd h)
  · exact .inr h
theorem Ext.on (e : Ext A (B.on H)) : Ext A (A.on H) := ⟨e.1, [], by simp⟩
theorem Ext.hd (e : Ext G G') {n : Nat} {a : Addr} (h : G.m[n]? = some a) : G'.m[n]? = some a := by
  obtain ⟨l, q⟩ := e.2
  rw [q, List.getElem?_append_left (List.getElem?_eq_some_iff.mp h).1]
  exact h
end
def hdl (n : Nat) : PyData := .dict [(.none, .int (Int.ofNat n))]
theorem hdl_inj {n m : Nat} (h : hdl n = hdl m) : n = m := by
  unfold hdl at h
  injection h with h
  injection h with h _
  injection h with _ h
  injection h with h
  exact Int.ofNat.inj h
def isK : List (PyData × PyData) → Bool
  | (.none, _) :: _ => false
  | _ => true
def isT : List (PyData × PyData) → Bool
  | (.none, .none) :: _ => true
  | _ => false
def kD : Key → PyData
  | .inl i => .int i
  | .inr x => .str x
def ktD (ks : List Key) : PyData := .tuple (ks.map kD)
def T3 (K : PySem.W.Frag) : Prop := He.ga K "Plans" = 0 ∨ ¬ He.ga K "Answerer" = 0
mutual

inductive Rp (K : PySem.W.Frag) (H : Hg) : V → PyData → Prop
  | non : Rp K H .non .none
  | bl (b : Bool) : Rp K H (.bl b) (.bool b)
  | int (i : Int) : Rp K H (.int i) (.int i)
  | str (x : Str) : Rp K H (.str x) (.str x)
  | lst {a : Addr} {xs : List V} {ds : List PyData} : SqL K H.h a xs → RpAll K H xs ds → Rp K H (.ref a) (.list ds)
  | tup {a : Addr} {xs : List V} {ds : List PyData} : H.h a = some (.tup xs) → RpAll K H xs ds → Rp K H (.ref a) (.tuple ds)
  | tup3 {a : Addr} {xs : List V} {ds : List PyData} {its : List Value} : T3 K → H.h a = some (.frz (tupObj its) (.tup xs)) → ds.length = 3 → RpAll K H xs ds → Rp K H (.ref a) (.tuple ds)
  | tupK {a : Addr} {xs : List Str} : SqT K H.h a (xs.map V.str) → xs ≠ [] → Rp K H (.ref a) (.tuple (xs.map PyData.str))
  | dk {a : Addr} {kvs : List (Key × V)} {ds : List PyData} : Rd H.h a (.dK kvs) → RpAll K H (kvs.map (·.2)) ds → Rp K H (.ref a) (.dict ((kvs.map fun p => kD p.1).zip ds))
  | dt {a : Addr} {kvs : List (List Key × V)} {ds : List PyData} : Rd H.h a (.dT kvs) → RpAll K H (kvs.map (·.2)) ds → Rp K H (.ref a) (.dict ((.none, .none) :: (kvs.map fun p => ktD p.1).zip ds))
  | hd {a : Addr} {n : Nat} : H.m[n]? = some a → Rp K H (.ref a) (hdl n)
inductive RpAll (K : PySem.W.Frag) (H : Hg) : List V → List PyData → Prop
  | nil : RpAll K H [] []
  | cons {v : V} {vs : List V} {d : PyData} {ds : List PyData} : Rp K H v d → RpAll K H vs ds → RpAll K H (v :: vs) (d :: ds)
end
section
variable {K : PySem.W.Frag} {H H' : Hg}
mutual
theorem Rp.mono (e : Ext H H') : ∀ {v : V} {d : PyData}, Rp K H v d → Rp K H' v d
  | _, _, .non => .non
  | _, _, .bl b => .bl b
  | _, _, .int i => .int i
  | _, _, .str x => .str x
  | _, _, .lst h r => .lst (e.sqL h) (RpAll.mono e r)
  | _, _, .tup h r => .tup (e.tup h) (RpAll.mono e r)
  | _, _, .tup3 t h l r => .tup3 t (e.frz h) l (RpAll.mono e r)
  | _, _, .tupK h n => .tupK (e.sqT h) n
  | _, _, .dk h r => .dk (e.rd h) (RpAll.mono e r)
  | _, _, .dt h r => .dt (e.rd h) (RpAll.mono e r)
  | _, _, .hd h => .hd (e.hd h)
theorem RpAll.mono (e : Ext H H') : ∀ {vs : List V} {ds : List PyData}, RpAll K H vs ds → RpAll K H' vs ds
  | _, _, .nil => .nil
  | _, _, .cons h r => .cons (Rp.mono e h) (RpAll.mono e r)
end
theorem RpAll.len : ∀ {vs : List V} {ds : List PyData}, RpAll K H vs ds → vs.length = ds.length
  | _, _, .nil => rfl
  | _, _, .cons _ r => congrArg (· + 1) r.len
theorem RpAll.get : ∀ {vs : List V} {ds : List PyData} {i : Nat} {d : PyData}, RpAll K H vs ds → ds[i]? = some d → ∃ v, vs[i]? = some v ∧ Rp K H v d
  | _, _, _, _, .nil, e => by simp at e
  | _, _, 0, _, .cons h _, e => by simp at e; subst e; exact ⟨_, rfl, h⟩
  | _, _, i + 1, d, .cons _ r, e => by
    obtain ⟨v, h1, h2⟩ := RpAll.get (i := i) (d := d) r (by simpa using e)
    exact ⟨v, by simpa using h1, h2⟩
theorem RpAll.get' : ∀ {vs : List V} {ds : List PyData} {i : Nat} {v : V}, RpAll K H vs ds → vs[i]? = some v → ∃ d, ds[i]? = some d ∧ Rp K H v d
  | _, _, _, _, .nil, e => by simp at e
  | _, _, 0, _, .cons h _, e => by simp at e; subst e; exact ⟨_, rfl, h⟩
  | _, _, i + 1, d, .cons _ r, e => by
    obtain ⟨v, h1, h2⟩ := RpAll.get' (i := i) r (by simpa using e)
    exact ⟨v, by simpa using h1, h2⟩
theorem RpAll.append : ∀ {vs ws : List V} {ds es : List PyData}, RpAll K H vs ds → RpAll K H ws es → RpAll K H (vs ++ ws) (ds ++ es)
  | _, _, _, _, .nil, s => s
  | _, _, _, _, .cons h r, s => .cons h (r.append s)
theorem RpAll.take : ∀ {vs : List V} {ds : List PyData} (n : Nat), RpAll K H vs ds → RpAll K H (vs.take n) (ds.take n)
  | _, _, 0, _ => .nil
  | _, _, _ + 1, .nil => .nil
  | _, _, n + 1, .cons h r => .cons h (r.take n)
theorem RpAll.drop : ∀ {vs : List V} {ds : List PyData} (n : Nat), RpAll K H vs ds → RpAll K H (vs.drop n) (ds.drop n)
  | _, _, 0, r => r
  | _, _, _ + 1, .nil => .nil
  | _, _, n + 1, .cons _ r => r.drop n
theorem RpAll.snoc {vs : List V} {ds : List PyData} {v : V} {d : PyData} (r : RpAll K H vs ds) (h : Rp K H v d) : RpAll K H (vs ++ [v]) (ds ++ [d]) := r.append (.cons h .nil)
theorem RpAll.reverse : ∀ {vs : List V} {ds : List PyData}, RpAll K H vs ds → RpAll K H vs.reverse ds.reverse
  | _, _, .nil => .nil
  | _, _, .cons h r => by rw [List.reverse_cons, List.reverse_cons]; exact r.reverse.snoc h
theorem RpAll.strs : ∀ (xs : List Str), RpAll K H (xs.map V.str) (xs.map PyData.str)
  | [] => .nil
  | x :: xs => .cons (.str x) (RpAll.strs xs)
theorem RpAll.ints : ∀ (xs : List Int), RpAll K H (xs.map V.int) (xs.map PyData.int)
  | [] => .nil
  | x :: xs => .cons (.int x) (RpAll.ints xs)
theorem Rp.sqT {v : V} {ds : List PyData} (h : Rp K H v (.tuple ds)) : ∃ a xs, v = .ref a ∧ SqT K H.h a xs ∧ RpAll K H xs ds := by
  cases h with
  | tup h r => exact ⟨_, _, rfl, SqT.of h, r⟩
  | tup3 _ h l r => exact ⟨_, _, rfl, .inl (.inr ⟨_, h⟩), r⟩
  | tupK h n => exact ⟨_, _, rfl, h, RpAll.strs _⟩
theorem Rp.hdl {v : V} {n : Nat} (h : Rp K H v (Ev.hdl n)) : ∃ a, v = .ref a ∧ H.m[n]? = some a := by
  generalize hd : Ev.hdl n = d at h
  cases h with
  | @hd a n' h => exact ⟨a, rfl, by rw [hdl_inj hd]; exact h⟩
  | @dk a kvs ds h r =>
    unfold Ev.hdl at hd
    exfalso
    cases kvs with
    | nil => cases ds <;> simp at hd
    | cons p kvs =>
      cases ds with
      | nil => simp at hd
      | cons d ds =>
        simp only [List.map_cons, List.zip_cons_cons, PyData.dict.injEq, List.cons.injEq, Prod.mk.injEq] at hd
        obtain ⟨⟨h1, _⟩, _⟩ := hd
        obtain ⟨k, v⟩ := p
        cases k <;> cases h1
  | dt h r => unfold Ev.hdl at hd; simp at hd
  | non => cases hd
  | bl => cases hd
  | int => cases hd
  | str => cases hd
  | lst => cases hd
  | tup => cases hd
  | tup3 => cases hd
  | tupK => cases hd
theorem Rp.sqL {v : V} {ds : List PyData} (h : Rp K H v (.list ds)) : ∃ a xs, v = .ref a ∧ SqL K H.h a xs ∧ RpAll K H xs ds := by
  cases h with
  | lst h r => exact ⟨_, _, rfl, h, r⟩
mutual

theorem Rp.dp : ∀ {v : V} {d : PyData}, Rp K H v d → d.canLay0 = true → Dp K H.h v d
  | _, _, .non, _ => .non
  | _, _, .bl b, _ => .bl b
  | _, _, .int i, _ => .int i
  | _, _, .str x, _ => .str x
  | _, _, .lst h r, c => .lst h (RpAll.dp r (by simpa [PyData.canLay0] using c))
  | _, _, .tup h r, c => .tup (SqT.of h) (RpAll.dp r (by simpa [PyData.canLay0] using c))
  | _, _, .tup3 _ h l r, c => .tup (.inl (.inr ⟨_, h⟩)) (RpAll.dp r (by simpa [PyData.canLay0] using c))
  | _, _, .tupK (xs := xs) h n, c => .tup h (RpAll.dp (RpAll.strs xs) (by simpa [PyData.canLay0] using c))
  | _, _, .dk h r, c => by simp [PyData.canLay0] at c
  | _, _, .dt h r, c => by simp [PyData.canLay0] at c
  | _, _, .hd h, c => by simp [hdl, PyData.canLay0] at c
theorem RpAll.dp : ∀ {vs : List V} {ds : List PyData}, RpAll K H vs ds → PyData.canLayAll0 ds = true → DpAll K H.h vs ds
  | _, _, .nil, _ => .nil
  | _, _, .cons h r, c => by
    rw [PyData.canLayAll0, Bool.and_eq_true] at c
    exact .cons (Rp.dp h c.1) (RpAll.dp r c.2)
end
end
inductive OV where
  | sh (d : PyData)
  | lst (xs : List OV)
  | dk (kvs : List (Key × OV))
  | dt (kvs : List (List Key × OV))
  | tup (xs : List OV)
instance : Inhabited OV := ⟨.sh .none⟩
mutual

def fz : OV → PyData
  | .sh d => d
  | .lst xs => .list (fzs xs)
  | .dk kvs => .dict (fzk kvs)
  | .dt kvs => .dict ((.none, .none) :: fzt kvs)
  | .tup xs => .tuple (fzs xs)
def fzs : List OV → List PyData
  | [] => []
  | x :: xs => fz x :: fzs xs
def fzk : List (Key × OV) → List (PyData × PyData)
  | [] => []
  | (k, x) :: xs => (kD k, fz x) :: fzk xs
def fzt : List (List Key × OV) → List (PyData × PyData)
  | [] => []
  | (k, x) :: xs => (ktD k, fz x) :: fzt xs
end
theorem fzs_eq : ∀ xs, fzs xs = xs.map fz
  | [] => by simp [fzs]
  | x :: xs => by simp [fzs, fzs_eq xs]
theorem fzk_eq : ∀ xs, fzk xs = xs.map fun p => (kD p.1, fz p.2)
  | [] => by simp [fzk]
  | (k, x) :: xs => by simp [fzk, fzk_eq xs]
theorem fzt_eq : ∀ xs, fzt xs = xs.map fun p => (ktD p.1, fz p.2)
  | [] => by simp [fzt]
  | (k, x) :: xs => by simp [fzt, fzt_eq xs]
abbrev Bs := List (Addr × HO)
mutual

inductive Own (K : PySem.W.Frag) (Hf : Hg) : V → OV → Bs → Prop
  | sh {v : V} {d : PyData} : Rp K Hf v d → Own K Hf v (.sh d) []
  | lst {a : Addr} {vs : List V} {os : List OV} {bs : Bs} : OwnL K Hf vs os bs → Own K Hf (.ref a) (.lst os) ((a, .lst vs) :: bs)
  | dk {a : Addr} {ks : List Key} {vs : List V} {os : List OV} {bs : Bs} : ks.length = vs.length → ks.Nodup → OwnL K Hf vs os bs → Own K Hf (.ref a) (.dk (ks.zip os)) ((a, .dK (ks.zip vs)) :: bs)
  | dt {a : Addr} {ks : List (List Key)} {vs : List V} {os : List OV} {bs : Bs} : ks.length = vs.length → ks.Nodup → OwnL K Hf vs os bs → Own K Hf (.ref a) (.dt (ks.zip os)) ((a, .dT (ks.zip vs)) :: bs)
  | tup {a : Addr} {vs : List V} {os : List OV} {bs : Bs} : os.length ≠ 3 → OwnL K Hf vs os bs → Own K Hf (.ref a) (.tup os) ((a, .tup vs) :: bs)
  | tup3 {a : Addr} {vs : List V} {os : List OV} {bs : Bs} {its : List Value} : T3 K → os.length = 3 → OwnL K Hf vs os bs → Own K Hf (.ref a) (.tup os) ((a, .frz (tupObj its) (.tup vs)) :: bs)
inductive OwnL (K : PySem.W.Frag) (Hf : Hg) : List V → List OV → Bs → Prop
  | nil : OwnL K Hf [] [] []
  | cons {v : V} {vs : List V} {o : OV} {os : List OV} {b1 b2 : Bs} : Own K Hf v o b1 → OwnL K Hf vs os b2 → OwnL K Hf (v :: vs) (o :: os) (b1 ++ b2)
end
section
variable {K : PySem.W.Frag} {H H' : Hg}
mutual
theorem Own.mono (e : Ext H H') : ∀ {v : V} {o : OV} {bs : Bs}, Own K H v o bs → Own K H' v o bs
  | _, _, _, .sh h => .sh (h.mono e)
  | _, _, _, .lst h => .lst (OwnL.mono e h)
  | _, _, _, .dk l n h => .dk l n (OwnL.mono e h)
  | _, _, _, .dt l n h => .dt l n (OwnL.mono e h)
  | _, _, _, .tup n h => .tup n (OwnL.mono e h)
  | _, _, _, .tup3 t n h => .tup3 t n (OwnL.mono e h)
theorem OwnL.mono (e : Ext H H') : ∀ {vs : List V} {os : List OV} {bs : Bs}, OwnL K H vs os bs → OwnL K H' vs os bs
  | _, _, _, .nil => .nil
  | _, _, _, .cons h r => .cons (Own.mono e h) (OwnL.mono e r)
end
theorem OwnL.len : ∀ {vs : List V} {os : List OV} {bs : Bs}, OwnL K H vs os bs → vs.length = os.length
  | _, _, _, .nil => rfl
  | _, _, _, .cons _ r => congrArg (· + 1) r.len
theorem OwnL.append : ∀ {vs ws : List V} {os ps : List OV} {bs cs : Bs}, OwnL K H vs os bs → OwnL K H ws ps cs → OwnL K H (vs ++ ws) (os ++ ps) (bs ++ cs)
  | _, _, _, _, _, _, .nil, s => s
  | _, _, _, _, _, _, .cons h r, s => by
    rw [List.append_assoc]
    exact .cons h (r.append s)
theorem OwnL.of_rp : ∀ {vs : List V} {ds : List PyData}, RpAll K H vs ds → OwnL K H vs (ds.map .sh) []
  | _, _, .nil => .nil
  | _, _, .cons h r => .cons (b1 := []) (b2 := []) (.sh h) (OwnL.of_rp r)
theorem OwnL.to_rp : ∀ {vs : List V} {ds : List PyData} {bs : Bs}, OwnL K H vs (ds.map .sh) bs → RpAll K H vs ds ∧ bs = []
  | _, [], _, .nil => ⟨.nil, rfl⟩
  | _, d :: ds, _, .cons (.sh h) r => by
    obtain ⟨h2, e⟩ := OwnL.to_rp r
    exact ⟨.cons h h2, by rw [e]; rfl⟩
theorem OwnL.split : ∀ {vs : List V} {os : List OV} {bs : Bs} {i : Nat} {o : OV}, OwnL K H vs os bs → os[i]? = some o →
    ∃ v b0 b1 b2, vs[i]? = some v ∧ bs = b0 ++ b1 ++ b2 ∧ Own K H v o b1 ∧ (∀ o' b' v', Own K H v' o' b' → OwnL K H (vs.set i v') (os.set i o') (b0 ++ b' ++ b2))
  | _, _, _, _, _, .nil, e => by simp at e
  | _, _, _, 0, _, .cons (b1 := b1) (b2 := b2) h r, e => by
    simp at e; subst e
    exact ⟨_, [], b1, b2, rfl, by simp, h, fun o' b' v' q => by simpa using OwnL.cons q r⟩
  | _, _, _, i + 1, o, .cons (b1 := c1) (b2 := c2) h r, e => by
    obtain ⟨v, b0, b1, b2, e1, e2, q, f⟩ := OwnL.split (i := i) (o := o) r (by simpa using e)
    refine ⟨v, c1 ++ b0, b1, b2, by simpa using e1, by rw [e2]; simp, q, fun o' b' v' q' => ?_⟩
    have := OwnL.cons h (f o' b' v' q')
    simpa using this
end
abbrev Its := List (V × OV)
inductive OwnI (K : PySem.W.Frag) (Hf : Hg) : Its → Bs → Prop
  | nil : OwnI K Hf [] []
  | cons {v : V} {o : OV} {its : Its} {b1 b2 : Bs} : Own K Hf v o b1 → OwnI K Hf its b2 → OwnI K Hf ((v, o) :: its) (b1 ++ b2)
section
variable {K : PySem.W.Frag} {H H' : Hg}
theorem OwnI.mono (e : Ext H H') : ∀ {its : Its} {bs : Bs}, OwnI K H its bs → OwnI K H' its bs
  | _, _, .nil => .nil
  | _, _, .cons h r => .cons (h.mono e) (r.mono e)
theorem OwnI.append : ∀ {A B : Its} {bs cs : Bs}, OwnI K H A bs → OwnI K H B cs → OwnI K H (A ++ B) (bs ++ cs)
  | _, _, _, _, .nil, s => s
  | _, _, _, _, .cons h r, s => by
    rw [List.append_assoc]
    exact .cons h (r.append s)
theorem OwnI.split : ∀ {A B : Its} {bs : Bs}, OwnI K H (A ++ B) bs → ∃ b1 b2, bs = b1 ++ b2 ∧ OwnI K H A b1 ∧ OwnI K H B b2
  | [], _, bs, h => ⟨[], bs, rfl, .nil, h⟩
  | (v, o) :: A, B, _, .cons (b1 := c1) h r => by
    obtain ⟨b1, b2, e, h1, h2⟩ := OwnI.split (A := A) (B := B) r
    exact ⟨c1 ++ b1, b2, by rw [e, List.append_assoc], .cons h h1, h2⟩
theorem OwnI.perm {A B : Its} (p : A.Perm B) : ∀ {bs : Bs}, OwnI K H A bs → ∃ cs, bs.Perm cs ∧ OwnI K H B cs := by
  induction p with
  | nil => exact fun h => ⟨_, .refl _, h⟩
  | cons x _ ih =>
    intro bs h
    cases h with
    | cons h r =>
      obtain ⟨cs, q, r'⟩ := ih r
      exact ⟨_, q.append_left _, .cons h r'⟩
  | swap x y l =>
    intro bs h
    cases h with
    | cons h r =>
      cases r with
      | cons h' r' =>
        refine ⟨_, ?_, .cons h' (.cons h r')⟩
        rw [← List.append_assoc, ← List.append_assoc]
        exact (List.perm_append_comm).append_right _
  | trans _ _ ih1 ih2 =>
    intro bs h
    obtain ⟨cs, q, r⟩ := ih1 h
    obtain ⟨ds, q', r'⟩ := ih2 r
    exact ⟨ds, q.trans q', r'⟩
theorem OwnL.its : ∀ {vs : List V} {os : List OV} {bs : Bs}, OwnL K H vs os bs → OwnI K H (vs.zip os) bs
  | _, _, _, .nil => .nil
  | _, _, _, .cons h r => .cons h r.its
theorem OwnI.lst : ∀ {vs : List V} {os : List OV} {bs : Bs}, vs.length = os.length → OwnI K H (vs.zip os) bs → OwnL K H vs os bs
  | [], [], _, _, .nil => .nil
  | _ :: vs, _ :: os, _, l, .cons h r => .cons h (OwnI.lst (by simpa using l) r)
end
structure Fr where
  b : Bs
  m : List Addr
@[reducible] def fr (F : Bs) (m : List Addr) : Fr := ⟨F, m⟩
instance : HAppend Bs Fr Fr := ⟨fun a F => ⟨a ++ F.b, F.m⟩⟩
def Fre (G : Hg) (p : Addr × HO) : Prop := G.h p.1 = none ∨ ∃ xs, p.2 = .tup xs ∧ G.h p.1 = some (.tup xs)
theorem Fre.no {G : Hg} {a : Addr} {u : HO} (h : Fre G (a, u)) (nt : ∀ xs, u ≠ .tup xs) : G.h a = none := by
  rcases h with h | ⟨xs, e, _⟩
  · exact h
  · exact absurd e (nt xs)
theorem Fre.to {G G' : Hg} {p : Addr × HO} (h : Fre G p) (e : G'.h p.1 = G.h p.1) : Fre G' p := by
  unfold Fre
  rw [e]; exact h
theorem Fre.ne {G : Hg} {p : Addr × HO} {a : Addr} {u : HO} (h : Fre G p) (k : G.h a = some u) (nt : ∀ xs, u ≠ .tup xs) : p.1 ≠ a := fun z => by
  rcases h with h | ⟨xs, _, h⟩
  · rw [z, k] at h; cases h
  · rw [z, k] at h; exact nt xs (Option.some.inj h)
structure SX (K : PySem.W.Frag) (Hf : Hg) (its : Its) (F : Fr) (H : Hp) : Prop where
  ex : ∃ bs, OwnI K Hf its bs ∧ ((bs ++ F.b).map (·.1)).Nodup ∧ ∀ p ∈ bs ++ F.b, H p.1 = some p.2 ∧ Fre Hf p
  sub : Ext Hf (Hf.on H)
  mm : Hf.m = F.m
section
variable {K : PySem.W.Frag} {Hf Hf' : Hg} {H H' : Hp} {its A B : Its} {F : Fr} {bs : Bs} {v w : V} {o : OV} {d : PyData} {p : Addr}
theorem nodup_perm {l m : Bs} (q : l.Perm m) (h : (l.map (·.1)).Nodup) : (m.map (·.1)).Nodup := (q.map _).nodup_iff.mp h
theorem SX.perm (s : SX K Hf A F H) (q : A.Perm B) : SX K Hf B F H := by
  obtain ⟨⟨bs, h, n, a⟩, e, mm⟩ := s
  obtain ⟨cs, qc, h'⟩ := h.perm q
  exact ⟨⟨cs, h', nodup_perm (qc.append_right F.b) n, fun p hp => a p ((qc.append_right F.b).mem_iff.mpr hp)⟩, e, mm⟩
theorem SX.tail (s : SX K Hf (A ++ B) F H) : SX K Hf B F H := by
  obtain ⟨⟨bs, h, n, a⟩, e, mm⟩ := s
  obtain ⟨b1, b2, rfl, h1, h2⟩ := h.split
  refine ⟨⟨b2, h2, ?_, fun p hp => a p ?_⟩, e, mm⟩
  · rw [List.append_assoc, List.map_append] at n
    exact (List.nodup_append.mp n).2.1
  · rw [List.append_assoc]
    exact List.mem_append_right _ hp
theorem SX.drop (s : SX K Hf ((v, o) :: its) F H) : SX K Hf its F H := SX.tail (A := [(v, o)]) s
theorem SX.head (s : SX K Hf (A ++ B) F H) : SX K Hf A F H := SX.tail (A := B) (B := A) (s.perm List.perm_append_comm)
theorem SX.frPerm {F1 F2 : Bs} {m : List Addr} (s : SX K Hf A (fr F1 m) H) (q : F1.Perm F2) : SX K Hf A (fr F2 m) H := by
  obtain ⟨⟨bs, h, n, a⟩, e, mm⟩ := s
  exact ⟨⟨bs, h, nodup_perm (q.append_left bs) n, fun p hp => a p ((q.append_left bs).mem_iff.mpr hp)⟩, e, mm⟩
theorem SX.frame (s : SX K Hf (A ++ B) F H) : ∃ bs, OwnI K Hf B bs ∧ SX K Hf A (bs ++ F) H := by
  obtain ⟨⟨bs, h, n, a⟩, e, mm⟩ := s
  obtain ⟨b1, b2, rfl, h1, h2⟩ := h.split
  rw [List.append_assoc] at n a
  exact ⟨b2, h2, ⟨b1, h1, n, a⟩, e, mm⟩
theorem SX.unframe (s : SX K Hf A (bs ++ F) H) (h : OwnI K Hf B bs) : SX K Hf (A ++ B) F H := by
  obtain ⟨⟨b1, h1, n, a⟩, e, mm⟩ := s
  have n : ((b1 ++ (bs ++ F.b)).map (·.1)).Nodup := n
  have a : ∀ p ∈ b1 ++ (bs ++ F.b), H p.1 = some p.2 ∧ Fre Hf p := a
  rw [← List.append_assoc] at n a
  exact ⟨⟨b1 ++ bs, h1.append h, n, a⟩, e, mm⟩
theorem SX.nil (e : Ext Hf (Hf.on H)) : SX K Hf [] (fr [] Hf.m) H := ⟨⟨[], .nil, by simp, fun p hp => by cases hp⟩, e, rfl⟩
theorem SX.add (s : SX K Hf its F H) (r : Rp K Hf v d) : SX K Hf ((v, .sh d) :: its) F H := by
  obtain ⟨⟨bs, h, n, a⟩, e, mm⟩ := s
  exact ⟨⟨[] ++ bs, .cons (.sh r) h, by simpa using n, fun p hp => a p (by simpa using hp)⟩, e, mm⟩
theorem SX.rp (s : SX K Hf ((v, .sh d) :: its) F H) : Rp K Hf v d := by
  obtain ⟨⟨bs, h, n, a⟩, e, mm⟩ := s
  cases h with
  | cons h _ => cases h; assumption
theorem SX.no (s : SX K Hf its F H) (h : H p = none) : Hf.h p = none := s.sub.none h
theorem SX.new {u : HO} (s : SX K Hf its F H) (hp : H p = Option.none) : SX K (Hf.up p u) its F (upd H p u) ∧ Same Hf (Hf.up p u) := by
  obtain ⟨⟨bs, h, n, a⟩, e, mm⟩ := s
  have sm : Same Hf (Hf.up p u) := same_l2 fun b x q => by rw [upd_ne (ne_of_none q (e.none hp))]; exact q
  refine ⟨⟨⟨bs, h.mono (.of sm), n, fun q hq => ?_⟩, Ext.mkOn fun b x q => ?_, mm⟩, sm⟩
  · have hne : q.1 ≠ p := ne_of_none (a q hq).1 hp
    refine ⟨?_, (a q hq).2.to (upd_ne hne)⟩
    show upd H p u q.1 = _
    rw [upd_ne hne]
    exact (a q hq).1
  · have q : upd Hf.h p u b = some x := q
    by_cases hb : b = p
    · subst hb; rw [upd_same] at q ⊢; exact .inl q
    · rw [upd_ne hb] at q
      rw [upd_ne hb]
      exact e.1 b x q
theorem SX.newOwn {u : HO} {C : Its} {o : OV} (s : SX K Hf (C ++ its) F H) (hp : H p = Option.none) (mk : ∀ bs, OwnI K Hf C bs → Own K Hf (.ref p) o ((p, u) :: bs)) : SX K Hf ((.ref p, o) :: its) F (upd H p u) := by
  obtain ⟨⟨bs, h, n, a⟩, e, mm⟩ := s
  obtain ⟨b1, b2, rfl, h1, h2⟩ := h.split
  have ne : ∀ q ∈ (b1 ++ b2) ++ F.b, q.1 ≠ p := fun q hq => ne_of_none (a q hq).1 hp
  refine ⟨⟨((p, u) :: b1) ++ b2, .cons (mk b1 h1) h2, ?_, fun q hq => ?_⟩, Ext.mkOn fun b x q => ?_, mm⟩
  · show (p :: ((b1 ++ b2 ++ F.b).map (·.1))).Nodup
    refine List.nodup_cons.mpr ⟨fun hm => ?_, n⟩
    obtain ⟨q, hq, e⟩ := List.mem_map.mp hm
    exact ne q hq e
  · rcases List.mem_cons.mp hq with rfl | hq
    · exact ⟨upd_same, .inl (e.none hp)⟩
    · rw [upd_ne (ne q hq)]; exact a q hq
  · have hb : b ≠ p := ne_of_none q (e.none hp)
    rw [upd_ne hb]; exact e.1 b x q
theorem SX.chg {C : Its} {a : Addr} {o' : OV} (R : HO → HO → Prop) (nt : ∀ u u', R u u' → ∀ xs, u ≠ .tup xs) (s : SX K Hf ((.ref a, o) :: (C ++ its)) F H)
    (ho : ∀ bs, Own K Hf (.ref a) o bs → ∃ u bs0, bs = (a, u) :: bs0 ∧ ∀ c1, OwnI K Hf C c1 → ∃ u' cs dr, (cs ++ dr).Perm (bs0 ++ c1) ∧ Own K Hf (.ref a) o' ((a, u') :: cs) ∧ R u u') :
    ∃ u u', H a = some u ∧ R u u' ∧ SX K Hf ((.ref a, o') :: its) F (upd H a u') := by
  obtain ⟨⟨bs, h, n, al⟩, e, mm⟩ := s
  cases h with
  | cons h r =>
    obtain ⟨u, bs0, e1, hu⟩ := ho _ h
    subst e1
    obtain ⟨c1, c2, rfl, h1, h2⟩ := r.split
    obtain ⟨u', cs, dr, q, hn, hR⟩ := hu c1 h1
    have P : ((((a, u') :: (cs ++ dr)) ++ c2 ++ F.b).map (·.1)).Perm ((((a, u) :: bs0) ++ (c1 ++ c2) ++ F.b).map (·.1)) := by
      have q2 : ((cs ++ dr) ++ c2 ++ F.b).Perm (bs0 ++ (c1 ++ c2) ++ F.b) := by
        have := (q.append_right c2).append_right F.b
        simpa [List.append_assoc] using this
      simpa using List.Perm.cons a (q2.map (·.1))
    have nd1 : ((((a, u') :: (cs ++ dr)) ++ c2 ++ F.b).map (·.1)).Nodup := P.nodup_iff.mpr n
    have sl : (((a, u') :: cs) ++ c2 ++ F.b).Sublist (((a, u') :: (cs ++ dr)) ++ c2 ++ F.b) := by
      refine List.Sublist.append_right (List.Sublist.append_right ?_ _) _
      exact List.Sublist.cons_cons _ (List.sublist_append_left _ _)
    have nd : ((((a, u') :: cs) ++ c2 ++ F.b).map (·.1)).Nodup := nd1.sublist (sl.map _)
    have h0 := al (a, u) (by simp)
    refine ⟨u, u', h0.1, hR, ⟨((a, u') :: cs) ++ c2, .cons hn h2, nd, fun z hz => ?_⟩, Ext.mkOn fun b x z => ?_, mm⟩
    · rcases List.mem_cons.mp hz with rfl | hz
      · exact ⟨upd_same, .inl (h0.2.no (nt _ _ hR))⟩
      · have ne : z.1 ≠ a := fun e => by
          have : a ∉ (cs ++ c2 ++ F.b).map (·.1) := (List.nodup_cons.mp nd).1
          exact this (List.mem_map.mpr ⟨z, hz, e⟩)
        rw [upd_ne ne]
        refine al z ?_
        have hz' : z ∈ cs ++ (c2 ++ F.b) := by rw [← List.append_assoc]; exact hz
        rcases List.mem_append.mp hz' with hz' | hz'
        · have := q.mem_iff.mp (List.mem_append_left dr hz')
          rcases List.mem_append.mp this with m | m <;> simp [m]
        · rcases List.mem_append.mp hz' with m | m <;> simp [m]
    · have ne : b ≠ a := fun z' => by
        have := h0.2.no (nt _ _ hR)
        rw [← z', z] at this; cases this
      rw [upd_ne ne]; exact e.1 b x z
theorem SX.push {a : Addr} {os : List OV} (s : SX K Hf ((.ref a, .lst os) :: (v, o) :: its) F H) : ∃ vs, vs.length = os.length ∧ H a = some (.lst vs) ∧ SX K Hf ((.ref a, .lst (os ++ [o])) :: its) F (upd H a (.lst (vs ++ [v]))) := by
  obtain ⟨u, u', h1, ⟨vs, rfl, rfl, hl⟩, h2⟩ := SX.chg (C := [(v, o)]) (o' := .lst (os ++ [o])) (fun u u' => ∃ vs, u = .lst vs ∧ u' = .lst (vs ++ [v]) ∧ vs.length = os.length) (by rintro _ _ ⟨_, rfl, _⟩ _ h; cases h) s (fun bs q => by
    cases q with
    | @lst _ vs _ b0 q =>
      refine ⟨_, _, rfl, fun c1 hc => ?_⟩
      cases hc with
      | cons hc hr =>
        cases hr
        exact ⟨.lst (vs ++ [v]), _, [], by rw [List.append_nil (_ ++ (_ ++ []))], .lst (q.append (.cons hc .nil)), vs, rfl, rfl, q.len⟩)
  exact ⟨vs, hl, h1, h2⟩
theorem SX.lstAt {a : Addr} {os : List OV} (s : SX K Hf ((.ref a, .lst os) :: its) F H) : ∃ vs, vs.length = os.length ∧ H a = some (.lst vs) := by
  obtain ⟨⟨bs, h, n, al⟩, e, mm⟩ := s
  cases h with
  | cons h r =>
    cases h with
    | @lst _ vs _ b0 q => exact ⟨vs, q.len, (al (a, .lst vs) (by simp)).1⟩
theorem SX.lstRef {os : List OV} (s : SX K Hf ((v, .lst os) :: its) F H) : ∃ a, v = .ref a := by
  obtain ⟨⟨bs, h, n, al⟩, e, mm⟩ := s
  cases h with
  | cons h r => cases h; exact ⟨_, rfl⟩
end
def addB (Hf : Hp) : Bs → Hp
  | [] => Hf
  | (a, u) :: bs => upd (addB Hf bs) a u
section
variable {K : PySem.W.Frag} {Hf Hf' : Hg} {H H' : Hp} {h0 : Hp} {its A B : Its} {F : Fr} {bs : Bs} {v w : V} {o : OV} {d : PyData} {p : Addr}
theorem addB_mem : ∀ {bs : Bs} {q : Addr × HO}, (bs.map (·.1)).Nodup → q ∈ bs → addB h0 bs q.1 = some q.2
  | (a, u) :: bs, q, n, h => by
    have n' := List.nodup_cons.mp (show (a :: bs.map (·.1)).Nodup from n)
    rcases List.mem_cons.mp h with rfl | h
    · exact upd_same
    · have ne : q.1 ≠ a := fun e => n'.1 (List.mem_map.mpr ⟨q, h, e⟩)
      show upd (addB h0 bs) a u q.1 = _
      rw [upd_ne ne]
      exact addB_mem n'.2 h
theorem addB_not : ∀ {bs : Bs} {a : Addr}, a ∉ bs.map (·.1) → addB h0 bs a = h0 a
  | [], _, _ => rfl
  | (b, u) :: bs, a, h => by
    have h1 : a ≠ b := fun e => h (by simp [e])
    have h2 : a ∉ bs.map (·.1) := fun e => h (List.mem_cons_of_mem _ e)
    show upd (addB h0 bs) b u a = _
    rw [upd_ne h1]
    exact addB_not h2
theorem addB_cases {bs : Bs} {a : Addr} {u : HO} (h : addB h0 bs a = some u) : (a, u) ∈ bs ∨ h0 a = some u := by
  induction bs with
  | nil => exact .inr h
  | cons q bs ih =>
    obtain ⟨b, x⟩ := q
    have h : upd (addB h0 bs) b x a = some u := h
    by_cases e : a = b
    · subst e; rw [upd_same] at h; cases h; exact .inl List.mem_cons_self
    · rw [upd_ne e] at h
      rcases ih h with z | z
      · exact .inl (List.mem_cons_of_mem _ z)
      · exact .inr z
theorem zip_fst_map {α β γ : Type} (f : α → γ) : ∀ (ks : List α) (vs : List β), ks.length = vs.length → (ks.zip vs).map (fun p => f p.1) = ks.map f
  | [], [], _ => rfl
  | k :: ks, v :: vs, h => by
    simp only [List.zip_cons_cons, List.map_cons]
    rw [zip_fst_map f ks vs (by simpa using h)]
theorem zip_snd {α β : Type} : ∀ (ks : List α) (vs : List β), ks.length = vs.length → (ks.zip vs).map (·.2) = vs
  | [], [], _ => rfl
  | k :: ks, v :: vs, h => by
    simp only [List.zip_cons_cons, List.map_cons]
    rw [zip_snd ks vs (by simpa using h)]
theorem zip_maps {α β γ δ : Type} (f : α → γ) (g : β → δ) : ∀ (ks : List α) (os : List β), (ks.zip os).map (fun p => (f p.1, g p.2)) = (ks.map f).zip (os.map g)
  | [], _ => by simp
  | _ :: _, [] => by simp
  | k :: ks, o :: os => by simp [zip_maps f g ks os]
mutual
theorem Own.rp {G : Hg} (e : Ext Hf G) : ∀ {v : V} {o : OV} {bs : Bs}, Own K Hf v o bs → (∀ q ∈ bs, G.h q.1 = some q.2) → Rp K G v (fz o)
  | _, _, _, .sh h, _ => by rw [fz]; exact h.mono e
  | _, _, _, .lst h, a => by
    rw [fz, fzs_eq]
    exact .lst (SqL.of (a _ List.mem_cons_self)) (OwnL.rp e h fun q hq => a q (List.mem_cons_of_mem _ hq))
  | _, _, _, .dk (ks := ks) (vs := vs) (os := os) l _ h, a => by
    have r := OwnL.rp e h fun q hq => a q (List.mem_cons_of_mem _ hq)
    rw [fz, fzk_eq, zip_maps, ← zip_fst_map kD ks vs l]
    exact .dk (.inl (a _ List.mem_cons_self)) (by rw [zip_snd _ _ l]; exact r)
  | _, _, _, .dt (ks := ks) (vs := vs) (os := os) l _ h, a => by
    have r := OwnL.rp e h fun q hq => a q (List.mem_cons_of_mem _ hq)
    rw [fz, fzt_eq, zip_maps, ← zip_fst_map ktD ks vs l]
    exact .dt (.inl (a _ List.mem_cons_self)) (by rw [zip_snd _ _ l]; exact r)
  | _, _, _, .tup n h, a => by
    rw [fz, fzs_eq]
    exact .tup (a _ List.mem_cons_self) (OwnL.rp e h fun q hq => a q (List.mem_cons_of_mem _ hq))
  | _, _, _, .tup3 t n h, a => by
    rw [fz, fzs_eq]
    exact .tup3 t (a _ List.mem_cons_self) (by rw [List.length_map]; exact n) (OwnL.rp e h fun q hq => a q (List.mem_cons_of_mem _ hq))
theorem OwnL.rp {G : Hg} (e : Ext Hf G) : ∀ {vs : List V} {os : List OV} {bs : Bs}, OwnL K Hf vs os bs → (∀ q ∈ bs, G.h q.1 = some q.2) → RpAll K G vs (os.map fz)
  | _, _, _, .nil, _ => .nil
  | _, _, _, .cons h r, a => .cons (Own.rp e h fun q hq => a q (List.mem_append_left _ hq)) (OwnL.rp e r fun q hq => a q (List.mem_append_right _ hq))
end
theorem SX.freezeM (s : SX K Hf ((v, o) :: its) F H) : ∃ Hf', Same Hf Hf' ∧ Hf'.m = Hf.m ∧ SX K Hf' ((v, .sh (fz o)) :: its) F H := by
  obtain ⟨⟨bs, h, n, al⟩, e, mm⟩ := s
  cases h with
  | @cons _ _ _ b1 b2 h r =>
    have nd1 : (b1.map (·.1)).Nodup := by
      rw [List.append_assoc, List.map_append] at n
      exact (List.nodup_append.mp n).1
    have key : ∀ q ∈ b1, Fre Hf q := fun q hq => (al q (by simp [hq])).2
    have mem : ∀ q ∈ b1, addB Hf.h b1 q.1 = some q.2 := fun q hq => addB_mem nd1 hq
    have sm : Same Hf (Hf.on (addB Hf.h b1)) := same_l2 fun a u hu => by
      by_cases hm : a ∈ b1.map (·.1)
      · obtain ⟨q, hq, rfl⟩ := List.mem_map.mp hm
        rw [mem q hq]
        rcases key q hq with z | ⟨xs, z1, z2⟩
        · rw [z] at hu; cases hu
        · rw [z2] at hu; rw [z1]; exact hu
      · rw [addB_not hm]; exact hu
    refine ⟨Hf.on (addB Hf.h b1), sm, rfl, ⟨[] ++ b2, .cons (.sh (h.rp (.of sm) mem)) (r.mono (.of sm)), ?_, fun q hq => ?_⟩, Ext.mkOn fun a u hu => ?_, mm⟩
    · rw [List.append_assoc, List.map_append] at n
      exact (List.nodup_append.mp n).2.1
    · have hq' : q ∈ b1 ++ b2 ++ F.b := by rw [List.append_assoc]; exact List.mem_append_right _ hq
      refine ⟨(al q hq').1, (al q hq').2.to ?_⟩
      show addB Hf.h b1 q.1 = _
      rw [addB_not]
      · intro hm
        obtain ⟨z, hz, ez⟩ := List.mem_map.mp hm
        rw [List.append_assoc, List.map_append] at n
        have hq2 : q.1 ∈ (b2 ++ F.b).map (·.1) := List.mem_map.mpr ⟨q, by simpa using hq, rfl⟩
        exact (List.nodup_append.mp n).2.2 q.1 (List.mem_map.mpr ⟨z, hz, ez⟩) q.1 hq2 rfl
    · rcases addB_cases hu with m | m
      · exact .inl (al (a, u) (by simp [m])).1
      · exact e.1 a u m
theorem SX.freeze (s : SX K Hf ((v, o) :: its) F H) : ∃ Hf', Same Hf Hf' ∧ SX K Hf' ((v, .sh (fz o)) :: its) F H := by
  obtain ⟨Hf', a, _, b⟩ := s.freezeM
  exact ⟨Hf', a, b⟩
theorem SX.rdH (s : SX K Hf ((v, o) :: its) F H) : Rp K (Hf.on H) v (fz o) := by
  obtain ⟨⟨bs, h, n, al⟩, e, mm⟩ := s
  cases h with
  | @cons _ _ _ b1 b2 h r => exact h.rp e fun q hq => (al q (by simp [hq])).1
end
mutual
def nkT : NestedKey → Bool
  | .none => false
  | .num _ => true
  | .text _ => false
  | .tup ks => nkTs ks
def nkTs : List NestedKey → Bool
  | [] => true
  | k :: ks => nkT k && nkTs ks
end
mutual
def nh : NestedKey → Int
  | .none => 0
  | .num i => hashInt i
  | .text _ => 0
  | .tup ks => reduceHash (Builtin.Tuple.tupleHashOf (nhs ks))
def nhs : List NestedKey → List Int
  | [] => []
  | k :: ks => nh k :: nhs ks
end
def nkOk : NestedKey → Bool
  | .tup ks => nkTs ks && decide ((NestedKey.tup ks).depth ≤ 8)
  | _ => false
def dnR (p : NestedKey × Addr × V) (q : NestedKey × Addr × Value) : Prop := p.1 = q.1 ∧ p.2.1 = q.2.1 ∧ RelV p.2.2 q.2.2
def dnE (x : NestedKey × Addr × Value) : DictEntry := ⟨nh x.1, .ref x.2.1, x.2.2⟩
def dnP (pin : Option Obj) (a : Addr) (xs : List (NestedKey × Addr × V)) (h : Heap) : Prop := xs.length ≤ sizeLine ∧ (a == sysModules) = false ∧ ∃ ys : List (NestedKey × Addr × Value), Paired dnR xs ys ∧
  ∃ o es ep, h.get? a = some o ∧ (∀ q, pin = some q → o = q) ∧ o.ExactDict ∧ o.data = .dict es ep ∧ es.toList = ys.map dnE
def dlP (a : Addr) (n : Nat) (h : Heap) : Prop := n ≤ sizeLine ∧ (a == sysModules) = false ∧ ∃ o es ep, h.get? a = some o ∧ o.ExactDict ∧ o.data = .dict es ep ∧ es.size = n
def dlO (a : Addr) (n : Nat) : HO := .ext (dlP a n)
def dnO (pin : Option Obj) (a : Addr) (xs : List (NestedKey × Addr × V)) : HO := .ext (dnP pin a xs)
inductive SO where
  | dn (kvs : List (NestedKey × PyData))
  | dl (n : Nat)
  | lst (ds : List PyData)
  | dk (kvs : List (Key × PyData))
  | dt (kvs : List (List Key × PyData))
  | ins (c : Str) (fs : List (Str × PyData))
inductive SOwn (K : PySem.W.Frag) (Hf : Hg) : Addr → SO → Bs → Prop
  | dn {a : Addr} {pin : Option Obj} {ks : List NestedKey} {bs : List Addr} {vs : List V} {ds : List PyData} : bs.length = ks.length → vs.length = ks.length → ks.Nodup → (∀ k ∈ ks, nkOk k = true) → RpAll K Hf (bs.map V.ref) (ks.map NestedKey.data) → RpAll K Hf vs ds → SOwn K Hf a (.dn (ks.zip ds)) [(a, dnO pin a (ks.zip (bs.zip vs)))]
  | dl {a : Addr} {n : Nat} : SOwn K Hf a (.dl n) [(a, dlO a n)]
  | lst {a : Addr} {vs : List V} {ds : List PyData} : RpAll K Hf vs ds → SOwn K Hf a (.lst ds) [(a, .lst vs)]
  | dk {a : Addr} {ks : List Key} {vs : List V} {ds : List PyData} : ks.length = vs.length → ks.Nodup → RpAll K Hf vs ds → SOwn K Hf a (.dk (ks.zip ds)) [(a, .dK (ks.zip vs))]
  | dt {a : Addr} {ks : List (List Key)} {vs : List V} {ds : List PyData} : ks.length = vs.length → ks.Nodup → RpAll K Hf vs ds → SOwn K Hf a (.dt (ks.zip ds)) [(a, .dT (ks.zip vs))]
  | ins {a dx : Addr} {c : Str} {ns : List Str} {vs : List V} {ds : List PyData} : ns.length = vs.length → RpAll K Hf vs ds → SOwn K Hf a (.ins c (ns.zip ds)) [(a, .ins (He.ga K c) dx (ns.zip vs)), (dx, .own a)]
inductive StoL (K : PySem.W.Frag) (Hf : Hg) : List Addr → List SO → Bs → Prop
  | nil : StoL K Hf [] [] []
  | cons {a : Addr} {as : List Addr} {o : SO} {os : List SO} {b1 b2 : Bs} : SOwn K Hf a o b1 → StoL K Hf as os b2 → StoL K Hf (a :: as) (o :: os) (b1 ++ b2)
section
variable {K : PySem.W.Frag} {G G' : Hg}
theorem SOwn.mono (e : Ext G G') {a : Addr} {o : SO} {bs : Bs} (h : SOwn K G a o bs) : SOwn K G' a o bs := by
  cases h with
  | dn l1 l2 n k rk r => exact .dn l1 l2 n k (rk.mono e) (r.mono e)
  | dl => exact .dl
  | lst r => exact .lst (r.mono e)
  | dk l n r => exact .dk l n (r.mono e)
  | dt l n r => exact .dt l n (r.mono e)
  | ins l r => exact .ins l (r.mono e)
theorem StoL.mono (e : Ext G G') {as : List Addr} {os : List SO} {bs : Bs} (h : StoL K G as os bs) : StoL K G' as os bs := by
  induction h with
  | nil => exact .nil
  | cons h _ ih => exact .cons (h.mono e) ih
theorem StoL.len {as : List Addr} {os : List SO} {bs : Bs} (h : StoL K G as os bs) : as.length = os.length := by
  induction h with
  | nil => rfl
  | cons h _ ih => exact congrArg (· + 1) ih
end
abbrev Sl := List (Option OV)
structure Rho where
  sl : Sl
  st : List SO
def Rho.set (ρ : Rho) (i : Nat) (x : Option OV) : Rho := ⟨ρ.sl.set i x, ρ.st⟩
@[reducible] def Rho.length (ρ : Rho) : Nat := ρ.sl.length
@[simp] theorem Rho.sl_set {ρ : Rho} {i : Nat} {x : Option OV} : (ρ.set i x).sl = ρ.sl.set i x := rfl
@[simp] theorem Rho.st_set {ρ : Rho} {i : Nat} {x : Option OV} : (ρ.set i x).st = ρ.st := rfl
@[simp] theorem Rho.set_set {ρ : Rho} {i : Nat} {x y : Option OV} : (ρ.set i x).set i y = ρ.set i y := by unfold Rho.set; simp
structure Exn where
  cls : Str
  cell : PyData
inductive Re where
  | ok (o : OV) (ρ : Rho) | exc (e : Exn) (ρ : Rho) | stk
inductive ReL where
  | ok (os : List OV) (ρ : Rho) | exc (e : Exn) (ρ : Rho) | stk
inductive ReB where
  | ok (b : Bool) (ρ : Rho) | exc (e : Exn) (ρ : Rho) | stk
inductive Out where
  | next (ρ : Rho) | ret (o : OV) (ρ : Rho) | brk (ρ : Rho) | cnt (ρ : Rho) | exc (e : Exn) (ρ : Rho) | stk
inductive Rv where
  | ok (o : OV) (st : List SO) | exc (e : Exn) (st : List SO) | stk
inductive Slots : St → Sl → Its → Prop
  | nil : Slots [] [] []
  | no {σ : St} {ρ : Sl} {its : Its} {x : Option V} : Slots σ ρ its → Slots (x :: σ) (none :: ρ) its
  | yes {σ : St} {ρ : Sl} {its : Its} {v : V} {o : OV} : Slots σ ρ its → Slots (some v :: σ) (some o :: ρ) ((v, o) :: its)
theorem Slots.len : ∀ {σ : St} {ρ : Sl} {its : Its}, Slots σ ρ its → σ.length = ρ.length
  | _, _, _, .nil => rfl
  | _, _, _, .no r => congrArg (· + 1) r.len
  | _, _, _, .yes r => congrArg (· + 1) r.len
theorem Slots.get : ∀ {σ : St} {ρ : Sl} {its : Its} {i : Nat} {o : OV}, Slots σ ρ its → ρ[i]? = some (some o) →
    ∃ v A B, σ[i]? = some (some v) ∧ its = A ++ (v, o) :: B ∧ (∀ o', Slots σ (ρ.set i (some o')) (A ++ (v, o') :: B)) ∧ Slots σ (ρ.set i none) (A ++ B)
  | _, _, _, _, _, .nil, h => by simp at h
  | _, _, _, 0, _, .no r, h => by simp at h
  | _, _, _, i + 1, _, .no r, h => by
    obtain ⟨v, A, B, h1, h2, h3, h4⟩ := r.get (i := i) (by simpa using h)
    exact ⟨v, A, B, by simpa using h1, h2, fun o' => by simpa using Slots.no (h3 o'), by simpa using Slots.no h4⟩
  | _, _, _, 0, _, .yes (v := v) (its := its) r, h => by
    simp at h; subst h
    exact ⟨v, [], its, rfl, rfl, fun o' => .yes r, .no r⟩
  | _, _, _, i + 1, _, .yes (v := w) (o := p) r, h => by
    obtain ⟨v, A, B, h1, h2, h3, h4⟩ := r.get (i := i) (by simpa using h)
    exact ⟨v, (w, p) :: A, B, by simpa using h1, by rw [h2]; rfl, fun o' => by simpa using Slots.yes (h3 o'), by simpa using Slots.yes h4⟩
theorem Slots.put : ∀ {σ : St} {ρ : Sl} {its : Its} {i : Nat} (v : V) (o : OV), Slots σ ρ its → i < ρ.length →
    ∃ A M B, its = A ++ (M ++ B) ∧ Slots (σ.set i (some v)) (ρ.set i (some o)) (A ++ (v, o) :: B)
  | _, _, _, _, _, _, .nil, h => by simp at h
  | _, _, _, 0, v, o, .no (its := its) r, h => ⟨[], [], its, rfl, .yes r⟩
  | _, _, _, i + 1, v, o, .no r, h => by
    obtain ⟨A, M, B, h1, h2⟩ := r.put (i := i) v o (by simpa using h)
    exact ⟨A, M, B, h1, by simpa using Slots.no h2⟩
  | _, _, _, 0, v, o, .yes (v := w) (o := p) (its := its) r, h => ⟨[], [(w, p)], its, rfl, .yes r⟩
  | _, _, _, i + 1, v, o, .yes (v := w) (o := p) r, h => by
    obtain ⟨A, M, B, h1, h2⟩ := r.put (i := i) v o (by simpa using h)
    exact ⟨(w, p) :: A, M, B, by rw [h1]; rfl, by simpa using Slots.yes h2⟩
theorem Slots.forget : ∀ {σ : St} {ρ : Sl} {its : Its} (i : Nat) (x : Option V), Slots σ ρ its → ∃ A M B, its = A ++ (M ++ B) ∧ Slots (σ.set i x) (ρ.set i none) (A ++ B)
  | _, _, _, _, _, .nil => ⟨[], [], [], rfl, .nil⟩
  | _, _, _, 0, _, .no (its := its) r => ⟨[], [], its, rfl, .no r⟩
  | _, _, _, i + 1, x, .no r => by
    obtain ⟨A, M, B, h1, h2⟩ := r.forget i x
    exact ⟨A, M, B, h1, by simpa using Slots.no h2⟩
  | _, _, _, 0, _, .yes (v := w) (o := p) (its := its) r => ⟨[], [(w, p)], its, rfl, .no r⟩
  | _, _, _, i + 1, x, .yes (v := w) (o := p) r => by
    obtain ⟨A, M, B, h1, h2⟩ := r.forget i x
    exact ⟨(w, p) :: A, M, B, by rw [h1]; rfl, by simpa using Slots.yes h2⟩
theorem Slots.forget' {σ : St} {ρ : Sl} {its : Its} (i : Nat) (h : Slots σ ρ its) : ∃ A M B, its = A ++ (M ++ B) ∧ Slots σ (ρ.set i none) (A ++ B) := by
  by_cases hi : i < σ.length
  · obtain ⟨A, M, B, h1, h2⟩ := h.forget i (σ[i])
    exact ⟨A, M, B, h1, by simpa using h2⟩
  · have hρ : ρ.set i none = ρ := List.set_eq_of_length_le (by rw [← h.len]; omega)
    exact ⟨its, [], [], by simp, by rw [hρ]; simpa using h⟩
theorem permA {α : Type} (T A M B : List α) : (T ++ (A ++ (M ++ B))).Perm (M ++ (T ++ (A ++ B))) := by
  rw [← List.append_assoc T A (M ++ B), ← List.append_assoc T A B]
  exact List.perm_append_comm_assoc _ _ _
theorem permB {α : Type} (x : α) (T A M B : List α) : (x :: (T ++ (A ++ (M ++ B)))).Perm (M ++ (T ++ (A ++ x :: B))) := by
  refine ((permA T A M B).cons x).trans ?_
  rw [← List.append_assoc T A B, ← List.append_assoc M (T ++ A) B, ← List.append_assoc T A (x :: B), ← List.append_assoc M (T ++ A) (x :: B)]
  exact List.perm_middle.symm
structure SI (K : PySem.W.Frag) (Hf : Hg) (T : Its) (ρ : Rho) (F : Bs) (σ : St) (H : Hp) : Prop where
  ex : ∃ its sb, Slots σ ρ.sl its ∧ StoL K Hf Hf.m ρ.st sb ∧ SX K Hf (T ++ its) (fr (sb ++ F) Hf.m) H
theorem StoL.to {K : PySem.W.Frag} {G G' : Hg} {os : List SO} {bs : Bs} (h : StoL K G G.m os bs) (e : Ext G G') (hm : G'.m = G.m) : StoL K G' G'.m os bs := by
  rw [hm]; exact h.mono e
section
variable {K : PySem.W.Frag} {Hf Hf' : Hg} {H H' : Hp} {T T' A B : Its} {F bs : Bs} {v w : V} {o o' : OV} {d : PyData} {p : Addr} {ρ ρ' : Rho} {σ : St} {i : Nat}
theorem SI.perm (s : SI K Hf T ρ F σ H) (q : T.Perm T') : SI K Hf T' ρ F σ H := by
  obtain ⟨its, sb, h, hs, s⟩ := s.ex
  exact ⟨its, sb, h, hs, s.perm (q.append_right _)⟩
theorem SI.drop (s : SI K Hf ((v, o) :: T) ρ F σ H) : SI K Hf T ρ F σ H := by
  obtain ⟨its, sb, h, hs, s⟩ := s.ex
  exact ⟨its, sb, h, hs, s.drop⟩
theorem SI.dropT (s : SI K Hf T ρ F σ H) : SI K Hf [] ρ F σ H := by
  obtain ⟨its, sb, h, hs, s⟩ := s.ex
  exact ⟨its, sb, h, hs, s.tail⟩
theorem SI.sub (s : SI K Hf T ρ F σ H) : Ext Hf (Hf.on H) := by
  obtain ⟨its, sb, h, hs, s⟩ := s.ex
  exact s.sub
theorem SI.len (s : SI K Hf T ρ F σ H) : σ.length = ρ.length := by
  obtain ⟨its, sb, h, hs, s⟩ := s.ex
  exact h.len
theorem SI.freeze (s : SI K Hf ((v, o) :: T) ρ F σ H) : ∃ Hf', Same Hf Hf' ∧ SI K Hf' ((v, .sh (fz o)) :: T) ρ F σ H := by
  obtain ⟨its, sb, h, hs, s⟩ := s.ex
  obtain ⟨Hf', sm, hm, s'⟩ := SX.freezeM (its := T ++ its) s
  exact ⟨Hf', sm, its, sb, h, hs.to sm hm, by rw [hm]; exact s'⟩
theorem SI.rp (s : SI K Hf ((v, .sh d) :: T) ρ F σ H) : Rp K Hf v d := by
  obtain ⟨its, sb, h, hs, s⟩ := s.ex
  exact SX.rp (its := T ++ its) s
theorem SI.rdH (s : SI K Hf ((v, o) :: T) ρ F σ H) : Rp K (Hf.on H) v (fz o) := by
  obtain ⟨its, sb, h, hs, s⟩ := s.ex
  exact SX.rdH (its := T ++ its) s
theorem SI.add (s : SI K Hf T ρ F σ H) (r : Rp K Hf v d) : SI K Hf ((v, .sh d) :: T) ρ F σ H := by
  obtain ⟨its, sb, h, hs, s⟩ := s.ex
  exact ⟨its, sb, h, hs, SX.add (its := T ++ its) s r⟩
theorem Slots.uniq : ∀ {σ : St} {ρ : Sl} {a b : Its}, Slots σ ρ a → Slots σ ρ b → a = b := by
  intro σ ρ a b ha
  induction ha generalizing b with
  | nil => intro hb; cases hb; rfl
  | no r ih => intro hb; cases hb with | no q => exact ih q
  | yes r ih => intro hb; cases hb with | yes q => rw [ih q]
theorem SI.take (s : SI K Hf T ρ F σ H) (h : ρ.sl[i]? = some (some o)) : ∃ v, σ[i]? = some (some v) ∧ SI K Hf ((v, o) :: T) (ρ.set i none) F σ H ∧ (∀ o' Hf' H', SI K Hf' ((v, o') :: T) (ρ.set i none) F σ H' → SI K Hf' T (ρ.set i (some o')) F σ H') := by
  obtain ⟨its, sb, hs, ht, s⟩ := s.ex
  obtain ⟨v, A, B, h1, rfl, h3, h4⟩ := hs.get h
  refine ⟨v, h1, ⟨A ++ B, sb, h4, ht, s.perm ?_⟩, fun o' Hf' H' s' => ?_⟩
  · have : (T ++ (A ++ (v, o) :: B)).Perm ((v, o) :: (T ++ (A ++ B))) := by
      rw [← List.append_assoc, ← List.append_assoc]
      exact List.perm_middle
    exact this
  · obtain ⟨its', sb', hs', ht', s''⟩ := s'.ex
    have : its' = A ++ B := hs'.uniq h4
    subst this
    refine ⟨A ++ (v, o') :: B, sb', h3 o', ht', s''.perm ?_⟩
    have : ((v, o') :: (T ++ (A ++ B))).Perm (T ++ (A ++ (v, o') :: B)) := by
      rw [← List.append_assoc, ← List.append_assoc]
      exact List.perm_middle.symm
    exact this
theorem SI.put (s : SI K Hf ((v, o) :: T) ρ F σ H) (hi : i < ρ.length) : SI K Hf T (ρ.set i (some o)) F (σ.set i (some v)) H := by
  obtain ⟨its, sb, h, hs, s⟩ := s.ex
  obtain ⟨A, M, B, rfl, h2⟩ := h.put v o hi
  exact ⟨_, sb, h2, hs, SX.tail (A := M) (s.perm (permB (v, o) T A M B))⟩
theorem SI.forget (s : SI K Hf T ρ F σ H) (i : Nat) : SI K Hf T (ρ.set i none) F σ H := by
  obtain ⟨its, sb, h, hs, s⟩ := s.ex
  obtain ⟨A, M, B, rfl, h2⟩ := h.forget' i
  exact ⟨_, sb, h2, hs, SX.tail (A := M) (s.perm (permA T A M B))⟩
theorem SI.ex2 (s : SI K Hf T ρ F σ H) : ∃ its F2, SX K Hf (T ++ its) F2 H ∧ ∀ T' Hf' H', Same Hf Hf' → SX K Hf' (T' ++ its) F2 H' → SI K Hf' T' ρ F σ H' := by
  obtain ⟨its, sb, h, hs, s⟩ := s.ex
  exact ⟨its, fr (sb ++ F) Hf.m, s, fun T' Hf' H' sm q => ⟨its, sb, h, hs.to sm q.mm, by rw [show Hf'.m = Hf.m from q.mm]; exact q⟩⟩
theorem SI.new {u : HO} (s : SI K Hf T ρ F σ H) (hp : H p = Option.none) : SI K (Hf.up p u) T ρ F σ (upd H p u) ∧ Same Hf (Hf.up p u) := by
  obtain ⟨its, sb, h, hs, s⟩ := s.ex
  obtain ⟨s', sm⟩ := s.new (u := u) hp
  exact ⟨⟨its, sb, h, hs.to sm rfl, s'⟩, sm⟩
end
def ExnIs (mg : Str → Option Value) (K : PySem.W.Frag) (Hf : Hg) (H : Hp) (e : Exn) (cls : Value) (d : Option Addr) : Prop :=
  ∃ (C dx : Addr) (fs : List (Str × V)) (v : V), mg e.cls = some (.ref C) ∧ cls = .ref C ∧ d = some dx ∧ H dx = some (.xd fs) ∧ fs.lookup ("cell" : Str) = some v ∧ Rp K Hf v e.cell
section
variable (X : Cx) (W : WX) (Hf : Hg) (T : Its) (F : Bs) (σ : St)
def PostE (r : Re) (Q : VK) : Prop :=
  match r with
  | .ok o ρ' => ∀ v H' Hf', Same Hf Hf' → SI X.K Hf' ((v, o) :: T) ρ' F σ H' → Q v H'
  | .exc e ρ' => ∀ H' Hf' cls d, Same Hf Hf' → SI X.K Hf' [] ρ' F σ H' → ExnIs X.mg X.K Hf' H' e cls d → W cls d σ H'
  | .stk => False
def PostL (r : ReL) (Q : List V → Hp → Prop) : Prop :=
  match r with
  | .ok os ρ' => ∀ vs H' Hf', vs.length = os.length → Same Hf Hf' → SI X.K Hf' (vs.zip os ++ T) ρ' F σ H' → Q vs H'
  | .exc e ρ' => ∀ H' Hf' cls d, Same Hf Hf' → SI X.K Hf' [] ρ' F σ H' → ExnIs X.mg X.K Hf' H' e cls d → W cls d σ H'
  | .stk => False
def PostB (r : ReB) (Q : Bool → Hp → Prop) : Prop :=
  match r with
  | .ok b ρ' => ∀ H' Hf', Same Hf Hf' → SI X.K Hf' T ρ' F σ H' → Q b H'
  | .exc e ρ' => ∀ H' Hf' cls d, Same Hf Hf' → SI X.K Hf' [] ρ' F σ H' → ExnIs X.mg X.K Hf' H' e cls d → W cls d σ H'
  | .stk => False
def PostS (r : Out) (D : Ends) : Prop :=
  match r with
  | .next ρ' => ∀ σ' H' Hf', Same Hf Hf' → SI X.K Hf' [] ρ' F σ' H' → D.nx σ' H'
  | .ret o ρ' => ∀ v σ' H' Hf', Same Hf Hf' → SI X.K Hf' [(v, o)] ρ' F σ' H' → D.rt v H'
  | .brk ρ' => ∀ σ' H' Hf', Same Hf Hf' → SI X.K Hf' [] ρ' F σ' H' → D.bk σ' H'
  | .cnt ρ' => ∀ σ' H' Hf', Same Hf Hf' → SI X.K Hf' [] ρ' F σ' H' → D.ct σ' H'
  | .exc e ρ' => ∀ σ' H' Hf' cls d, Same Hf Hf' → SI X.K Hf' [] ρ' F σ' H' → ExnIs X.mg X.K Hf' H' e cls d → W cls d σ' H'
  | .stk => False
end
def tE (X : Cx) (W : WX) (f : Rho → Re) : TE := fun σ H Q => ∃ Hf T ρ F, SI X.K Hf T ρ F σ H ∧ PostE X W Hf T F σ (f ρ) Q
def tL (X : Cx) (W : WX) (f : Rho → ReL) : TA := fun σ H Q => ∃ Hf T ρ F, SI X.K Hf T ρ F σ H ∧ PostL X W Hf T F σ (f ρ) Q
def tT (X : Cx) (W : WX) (f : Rho → ReB) : TT := fun σ H Q => ∃ Hf T ρ F, SI X.K Hf T ρ F σ H ∧ PostB X W Hf T F σ (f ρ) Q
def tSt (X : Cx) (W : WX) (g : Rho → Out) : TS := fun D σ H => ∃ Hf ρ F, SI X.K Hf [] ρ F σ H ∧ PostS X W Hf F (g ρ) D
def EvE (X : Cx) (W : WX) (e : Expr) (f : Rho → Re) : Prop := PE X e (tE X W f)
def EvL (X : Cx) (W : WX) (es : List Expr) (f : Rho → ReL) : Prop := PA X es (tL X W f)
def EvT (X : Cx) (W : WX) (e : Expr) (f : Rho → ReB) : Prop := PT X e (tT X W f)
def EvC (X : Cx) (W : WX) (op : CmpOp) (a b : Expr) (f : Rho → Re) : Prop := PC X op a b (tE X W f)
def EvS (X : Cx) (W : WX) (st : Stmt) (g : Rho → Out) : Prop := PS X st (tSt X W g)
def EvB (X : Cx) (W : WX) (sts : List Stmt) (g : Rho → Out) : Prop := PSs X sts (tSt X W g)
theorem pe_w {X : Cx} {e : Expr} {t t' : TE} (h : PE X e t) (hw : ∀ σ H Q, t' σ H Q → t σ H Q) : PE X e t' := ⟨fun pins s σ H Q I h' => h.run pins s σ H Q I (hw σ H Q h')⟩
theorem pa_w {X : Cx} {es : List Expr} {t t' : TA} (h : PA X es t) (hw : ∀ σ H Q, t' σ H Q → t σ H Q) : PA X es t' := ⟨fun pos pins s σ H Q I h' => h.run pos pins s σ H Q I (hw σ H Q h')⟩
theorem pt_w {X : Cx} {e : Expr} {t t' : TT} (h : PT X e t) (hw : ∀ σ H Q, t' σ H Q → t σ H Q) : PT X e t' := ⟨fun pins s σ H Q I h' => h.run pins s σ H Q I (hw σ H Q h')⟩
theorem pc_w {X : Cx} {op : CmpOp} {a b : Expr} {t t' : TE} (h : PC X op a b t) (hw : ∀ σ H Q, t' σ H Q → t σ H Q) : PC X op a b t' := ⟨fun pins s σ H Q I h' => h.run pins s σ H Q I (hw σ H Q h')⟩
theorem ps_w {X : Cx} {st : Stmt} {t t' : TS} (h : PS X st t) (hw : ∀ D σ H, t' D σ H → t D σ H) : PS X st t' := ⟨fun pins s σ H D I h' => h.run pins s σ H D I (hw D σ H h')⟩
theorem pss_w {X : Cx} {st : List Stmt} {t t' : TS} (h : PSs X st t) (hw : ∀ D σ H, t' D σ H → t D σ H) : PSs X st t' := ⟨fun pins s σ H D I h' => h.run pins s σ H D I (hw D σ H h')⟩
def bindE (r : Re) (k : OV → Rho → Re) : Re := match r with
  | .ok o ρ => k o ρ
  | .exc e ρ => .exc e ρ
  | .stk => .stk
def bindEL (r : Re) (k : OV → Rho → ReL) : ReL := match r with
  | .ok o ρ => k o ρ
  | .exc e ρ => .exc e ρ
  | .stk => .stk
def bindL (r : ReL) (k : List OV → Rho → Re) : Re := match r with
  | .ok o ρ => k o ρ
  | .exc e ρ => .exc e ρ
  | .stk => .stk
def bindLL (r : ReL) (k : List OV → Rho → ReL) : ReL := match r with
  | .ok o ρ => k o ρ
  | .exc e ρ => .exc e ρ
  | .stk => .stk
def bindB (r : ReB) (k : Bool → Rho → Re) : Re := match r with
  | .ok o ρ => k o ρ
  | .exc e ρ => .exc e ρ
  | .stk => .stk
def bindBB (r : ReB) (k : Bool → Rho → ReB) : ReB := match r with
  | .ok o ρ => k o ρ
  | .exc e ρ => .exc e ρ
  | .stk => .stk
def bindEB (r : Re) (k : OV → Rho → ReB) : ReB := match r with
  | .ok o ρ => k o ρ
  | .exc e ρ => .exc e ρ
  | .stk => .stk
def bindS (r : Re) (k : OV → Rho → Out) : Out := match r with
  | .ok o ρ => k o ρ
  | .exc e ρ => .exc e ρ
  | .stk => .stk
def bindBS (r : ReB) (k : Bool → Rho → Out) : Out := match r with
  | .ok o ρ => k o ρ
  | .exc e ρ => .exc e ρ
  | .stk => .stk
section
variable {X : Cx} {W : WX} {Hf : Hg} {T T' : Its} {F : Bs} {σ : St} {Q : VK}
theorem PostE.mono {Hf' : Hg} (sm : Same Hf Hf') : ∀ {r : Re}, PostE X W Hf T F σ r Q → PostE X W Hf' T F σ r Q
  | .ok _ _, h => fun v H' Hf2 s => h v H' Hf2 (sm.trans s)
  | .exc _ _, h => fun H' Hf2 cls d s => h H' Hf2 cls d (sm.trans s)
  | .stk, h => h
theorem PostL.mono {Hf' : Hg} (sm : Same Hf Hf') {Q : List V → Hp → Prop} : ∀ {r : ReL}, PostL X W Hf T F σ r Q → PostL X W Hf' T F σ r Q
  | .ok _ _, h => fun v H' Hf2 l s => h v H' Hf2 l (sm.trans s)
  | .exc _ _, h => fun H' Hf2 cls d s => h H' Hf2 cls d (sm.trans s)
  | .stk, h => h
theorem PostB.mono {Hf' : Hg} (sm : Same Hf Hf') {Q : Bool → Hp → Prop} : ∀ {r : ReB}, PostB X W Hf T F σ r Q → PostB X W Hf' T F σ r Q
  | .ok _ _, h => fun H' Hf2 s => h H' Hf2 (sm.trans s)
  | .exc _ _, h => fun H' Hf2 cls d s => h H' Hf2 cls d (sm.trans s)
  | .stk, h => h
theorem PostS.mono {Hf' : Hg} (sm : Same Hf Hf') {D : Ends} : ∀ {r : Out}, PostS X W Hf F r D → PostS X W Hf' F r D
  | .next _, h => fun σ' H' Hf2 s => h σ' H' Hf2 (sm.trans s)
  | .ret _ _, h => fun v σ' H' Hf2 s => h v σ' H' Hf2 (sm.trans s)
  | .brk _, h => fun σ' H' Hf2 s => h σ' H' Hf2 (sm.trans s)
  | .cnt _, h => fun σ' H' Hf2 s => h σ' H' Hf2 (sm.trans s)
  | .exc _ _, h => fun σ' H' Hf2 cls d s => h σ' H' Hf2 cls d (sm.trans s)
  | .stk, h => h
theorem PostE.bind {r : Re} {k : OV → Rho → Re} {Q1 : VK} (h : PostE X W Hf T F σ (bindE r k) Q)
    (hk : ∀ a ρ1 v H1 Hf1, Same Hf Hf1 → SI X.K Hf1 ((v, a) :: T') ρ1 F σ H1 → PostE X W Hf1 T F σ (k a ρ1) Q → Q1 v H1) : PostE X W Hf T' F σ r Q1 := by
  cases r with
  | ok o ρ => exact fun v H1 Hf1 sm s => hk o ρ v H1 Hf1 sm s (PostE.mono sm h)
  | exc e ρ => exact h
  | stk => exact h
theorem PostE.bindEL {r : Re} {k : OV → Rho → ReL} {Q : List V → Hp → Prop} {Q1 : VK} (h : PostL X W Hf T F σ (bindEL r k) Q)
    (hk : ∀ a ρ1 v H1 Hf1, Same Hf Hf1 → SI X.K Hf1 ((v, a) :: T') ρ1 F σ H1 → PostL X W Hf1 T F σ (k a ρ1) Q → Q1 v H1) : PostE X W Hf T' F σ r Q1 := by
  cases r with
  | ok o ρ => exact fun v H1 Hf1 sm s => hk o ρ v H1 Hf1 sm s (PostL.mono sm h)
  | exc e ρ => exact h
  | stk => exact h
theorem PostL.bind {r : ReL} {k : List OV → Rho → Re} {Q1 : List V → Hp → Prop} (h : PostE X W Hf T F σ (bindL r k) Q)
    (hk : ∀ as ρ1 vs H1 Hf1, vs.length = as.length → Same Hf Hf1 → SI X.K Hf1 (vs.zip as ++ T') ρ1 F σ H1 → PostE X W Hf1 T F σ (k as ρ1) Q → Q1 vs H1) : PostL X W Hf T' F σ r Q1 := by
  cases r with
  | ok o ρ => exact fun v H1 Hf1 l sm s => hk o ρ v H1 Hf1 l sm s (PostE.mono sm h)
  | exc e ρ => exact h
  | stk => exact h
theorem PostL.bindLL {r : ReL} {k : List OV → Rho → ReL} {Q : List V → Hp → Prop} {Q1 : List V → Hp → Prop} (h : PostL X W Hf T F σ (bindLL r k) Q)
    (hk : ∀ as ρ1 vs H1 Hf1, vs.length = as.length → Same Hf Hf1 → SI X.K Hf1 (vs.zip as ++ T') ρ1 F σ H1 → PostL X W Hf1 T F σ (k as ρ1) Q → Q1 vs H1) : PostL X W Hf T' F σ r Q1 := by
  cases r with
  | ok o ρ => exact fun v H1 Hf1 l sm s => hk o ρ v H1 Hf1 l sm s (PostL.mono sm h)
  | exc e ρ => exact h
  | stk => exact h
theorem PostB.bind {r : ReB} {k : Bool → Rho → Re} {Q1 : Bool → Hp → Prop} (h : PostE X W Hf T F σ (bindB r k) Q)
    (hk : ∀ b ρ1 H1 Hf1, Same Hf Hf1 → SI X.K Hf1 T' ρ1 F σ H1 → PostE X W Hf1 T F σ (k b ρ1) Q → Q1 b H1) : PostB X W Hf T' F σ r Q1 := by
  cases r with
  | ok o ρ => exact fun H1 Hf1 sm s => hk o ρ H1 Hf1 sm s (PostE.mono sm h)
  | exc e ρ => exact h
  | stk => exact h
theorem PostB.bindBB {r : ReB} {k : Bool → Rho → ReB} {Q Q1 : Bool → Hp → Prop} (h : PostB X W Hf T F σ (bindBB r k) Q)
    (hk : ∀ b ρ1 H1 Hf1, Same Hf Hf1 → SI X.K Hf1 T' ρ1 F σ H1 → PostB X W Hf1 T F σ (k b ρ1) Q → Q1 b H1) : PostB X W Hf T' F σ r Q1 := by
  cases r with
  | ok o ρ => exact fun H1 Hf1 sm s => hk o ρ H1 Hf1 sm s (PostB.mono sm h)
  | exc e ρ => exact h
  | stk => exact h
theorem PostE.bindEB {r : Re} {k : OV → Rho → ReB} {Q : Bool → Hp → Prop} {Q1 : VK} (h : PostB X W Hf T F σ (bindEB r k) Q)
    (hk : ∀ a ρ1 v H1 Hf1, Same Hf Hf1 → SI X.K Hf1 ((v, a) :: T') ρ1 F σ H1 → PostB X W Hf1 T F σ (k a ρ1) Q → Q1 v H1) : PostE X W Hf T' F σ r Q1 := by
  cases r with
  | ok o ρ => exact fun v H1 Hf1 sm s => hk o ρ v H1 Hf1 sm s (PostB.mono sm h)
  | exc e ρ => exact h
  | stk => exact h
theorem PostE.bindS {r : Re} {k : OV → Rho → Out} {D : Ends} {Q1 : VK} (h : PostS X W Hf F (bindS r k) D)
    (hk : ∀ a ρ1 v H1 Hf1, Same Hf Hf1 → SI X.K Hf1 ((v, a) :: T') ρ1 F σ H1 → PostS X W Hf1 F (k a ρ1) D → Q1 v H1) : PostE X W Hf T' F σ r Q1 := by
  cases r with
  | ok o ρ => exact fun v H1 Hf1 sm s => hk o ρ v H1 Hf1 sm s (PostS.mono sm h)
  | exc e ρ => exact fun H' Hf' cls d sm s x => h σ H' Hf' cls d sm s x
  | stk => exact h
theorem PostB.bindBS {r : ReB} {k : Bool → Rho → Out} {D : Ends} {Q1 : Bool → Hp → Prop} (h : PostS X W Hf F (bindBS r k) D)
    (hk : ∀ a ρ1 H1 Hf1, Same Hf Hf1 → SI X.K Hf1 T' ρ1 F σ H1 → PostS X W Hf1 F (k a ρ1) D → Q1 a H1) : PostB X W Hf T' F σ r Q1 := by
  cases r with
  | ok o ρ => exact fun H1 Hf1 sm s => hk o ρ H1 Hf1 sm s (PostS.mono sm h)
  | exc e ρ => exact fun H' Hf' cls d sm s x => h σ H' Hf' cls d sm s x
  | stk => exact h
end
structure Good (X : Cx) (W : WX) (n : Nat) : Prop where
  nd : X.N.Nodup
  calm : X.calm = true
  tk : Takes X W
  po : PassesOwn (model X.prog X.w) X.A X.env X.xe
  hr : Room n X.A
abbrev W0 : WX := fun _ _ _ _ => False
theorem Good.blk {X : Cx} {W : WX} {n : Nat} (g : Good X W n) (s : Shared) (H : Hp) (scope : Scope) (cenv : Env) (fp : List Addr) : Good (X.blk s H scope cenv fp) W0 n :=
  ⟨g.nd, g.calm, takes0, .never, g.hr⟩
theorem Good.hu {X : Cx} {W : WX} {n : Nat} (g : Good X W n) : X.A.units + 65 < cLine := by have := g.hr.un; omega
section
variable {X : Cx} {W : WX} {e a b c : Expr} {f fa fb fc : Rho → Re} {pos : Pos} {n : Nat}
def cC (d : PyData) (ρ : Rho) : Re := .ok (.sh d) ρ
theorem ev_c {v : V} {d : PyData} (h : PE X e (tC v)) (r : ∀ H, Rp X.K H v d) : EvE X W e (cC d) :=
  pe_w h fun σ H Q ⟨Hf, T, ρ, F, s, h⟩ => h v H Hf (Same.refl _) (s.add (r _))
theorem ev_int {i : Int} {j} : EvE X W (.Constant (.int i) j pos) (cC (.int i)) := ev_c pe_int fun _ => .int i
theorem ev_bl {i : Bool} {j} : EvE X W (.Constant (.bool i) j pos) (cC (.bool i)) := ev_c pe_bl fun _ => .bl i
theorem ev_non {j} : EvE X W (.Constant .none j pos) (cC .none) := ev_c pe_non fun _ => .non
theorem ev_str {x : Str} {j} : EvE X W (.Constant (.str x) j pos) (cC (.str x)) := ev_c pe_str fun _ => .str x
def eV (i : Nat) (ρ : Rho) : Re := match ρ.sl[i]? with
  | some (some o) => .ok (.sh (fz o)) (ρ.set i (some (.sh (fz o))))
  | _ => .stk
def eM (i : Nat) (ρ : Rho) : Re := match ρ.sl[i]? with
  | some (some o) => .ok o (ρ.set i none)
  | _ => .stk
theorem ev_var {i : Nat} (h : PE X e (tVar i)) : EvE X W e (eV i) := pe_w h fun σ H Q ⟨Hf, T, ρ, F, s, h⟩ => by
  unfold eV at h
  cases q : ρ.sl[i]? with
  | none => rw [q] at h; exact h.elim
  | some x =>
    cases x with
    | none => rw [q] at h; exact h.elim
    | some o =>
      rw [q] at h
      obtain ⟨v, h1, s1, back⟩ := s.take q
      obtain ⟨Hf', sm, s2⟩ := s1.freeze
      refine ⟨v, h1, h v H Hf' sm ?_⟩
      have s3 := s2.add s2.rp
      obtain ⟨v', h1', _⟩ := id s3
      exact (SI.perm (T := (v, .sh (fz o)) :: (v, .sh (fz o)) :: T) (T' := (v, .sh (fz o)) :: (v, .sh (fz o)) :: T) s3 (.refl _)) |> fun z => by
        have := back (.sh (fz o)) Hf' H s2
        exact this.add s2.rp
theorem ev_mv {i : Nat} (h : PE X e (tVar i)) : EvE X W e (eM i) := pe_w h fun σ H Q ⟨Hf, T, ρ, F, s, h⟩ => by
  unfold eM at h
  cases q : ρ.sl[i]? with
  | none => rw [q] at h; exact h.elim
  | some x =>
    cases x with
    | none => rw [q] at h; exact h.elim
    | some o =>
      rw [q] at h
      obtain ⟨v, h1, s1, back⟩ := s.take q
      exact ⟨v, h1, h v H Hf (Same.refl _) s1⟩
def Op2 (K : PySem.W.Frag) (r : R2) (g : OV → OV → Option OV) : Prop :=
  ∀ (Hf : Hg) (its : Its) (F : Fr) (H : Hp) (x y : V) (a b c : OV) (Q : VK), SX K Hf ((y, b) :: (x, a) :: its) F H → g a b = some c →
    (∀ v H' Hf', Same Hf Hf' → SX K Hf' ((v, c) :: its) F H' → Q v H') → r x y H Q
def ofO (o : Option OV) (ρ : Rho) : Re := match o with
  | some c => .ok c ρ
  | none => .stk
def eBin (g : OV → OV → Option OV) (fa fb : Rho → Re) (ρ : Rho) : Re := bindE (fa ρ) fun a ρ1 => bindE (fb ρ1) fun b ρ2 => ofO (g a b) ρ2
theorem op_post {r : R2} {g : OV → OV → Option OV} (ho : Op2 X.K r g) {Hf : Hg} {T : Its} {ρ : Rho} {F : Bs} {σ : St} {H : Hp} {x y : V} {a b : OV} {Q : VK}
    (s : SI X.K Hf ((y, b) :: (x, a) :: T) ρ F σ H) (h : PostE X W Hf T F σ (ofO (g a b) ρ) Q) : r x y H Q := by
  cases q : g a b with
  | none => rw [q] at h; exact h.elim
  | some c =>
    rw [q] at h
    obtain ⟨its, F2, s, bk⟩ := s.ex2
    exact ho Hf (T ++ its) F2 H x y a b c Q s q fun v H' Hf' sm s' => h v H' Hf' sm (bk _ _ _ sm s')
theorem ev_top {r : R2} {g : OV → OV → Option OV} (ho : Op2 X.K r g) (h : PE X e (tOp r (tE X W fa) (tE X W fb))) : EvE X W e (eBin g fa fb) := pe_w h fun σ H Q ⟨Hf, T, ρ, F, s, h⟩ => by
  refine ⟨Hf, T, ρ, F, s, PostE.bind h fun a ρ1 x H1 Hf1 sm s1 h1 => ⟨Hf1, (x, a) :: T, ρ1, F, s1, PostE.bind h1 fun b ρ2 y H2 Hf2 sm2 s2 h2 => ?_⟩⟩
  exact op_post ho s2 h2
theorem ev_op {op : Operator} {r : R2} {g : OV → OV → Option OV} (hr : OpR X (binaryOp op) r) (ho : Op2 X.K r g) (ha : EvE X W a fa) (hb : EvE X W b fb) : EvE X W (.BinOp a op b pos) (eBin g fa fb) := ev_top ho (pe_op hr ha hb)
theorem ec_op {op : CmpOp} {r : R2} {g : OV → OV → Option OV} (hr : OpR X (compareOp op) r) (ho : Op2 X.K r g) (ha : EvE X W a fa) (hb : EvE X W b fb) : EvC X W op a b (eBin g fa fb) := by
  have h : PC X op a b (tOp r (tE X W fa) (tE X W fb)) := ⟨fun pins s σ H Q I h => binT ha hb I h fun v u s2 x y H2 I2 rx ry q => hr pins s2 σ H2 x y v u Q I2 rx ry q⟩
  refine pc_w h fun σ H Q ⟨Hf, T, ρ, F, s, h⟩ => ?_
  refine ⟨Hf, T, ρ, F, s, PostE.bind h fun a ρ1 x H1 Hf1 sm s1 h1 => ⟨Hf1, (x, a) :: T, ρ1, F, s1, PostE.bind h1 fun b ρ2 y H2 Hf2 sm2 s2 h2 => ?_⟩⟩
  exact op_post ho s2 h2
end
def oI : OV → Option Int
  | .sh (.int i) => some i
  | _ => none
theorem oI_eq {a : OV} {i : Int} (h : oI a = some i) : a = .sh (.int i) := by
  unfold oI at h
  split at h
  · cases h; rfl
  · cases h
def gII (C : Int → Int → Bool) (f : Int → Int → PyData) (a b : OV) : Option OV := match oI a, oI b with
  | some i, some j => if C i j = true then some (.sh (f i j)) else none
  | _, _ => none
theorem rp_int {K : PySem.W.Frag} {H : Hg} {x : V} {i : Int} (h : Rp K H x (.int i)) : x = .int i := by cases h; rfl
theorem rp_bl {K : PySem.W.Frag} {H : Hg} {x : V} {i : Bool} (h : Rp K H x (.bool i)) : x = .bl i := by cases h; rfl
theorem rp_str {K : PySem.W.Frag} {H : Hg} {x : V} {i : Str} (h : Rp K H x (.str i)) : x = .str i := by cases h; rfl
theorem op2_int {K : PySem.W.Frag} {r : R2} {C : Int → Int → Bool} {f : Int → Int → PyData} {fv : Int → Int → V} (hf : ∀ i j (H : Hg), Rp K H (fv i j) (f i j))
    (hr : ∀ i j H Q, C i j = true → Q (fv i j) H → r (.int i) (.int j) H Q) : Op2 K r (gII C f) := by
  intro Hf its F H x y a b c Q s h q
  unfold gII at h
  split at h
  · rename_i i j h1 h2
    obtain rfl := oI_eq h1
    obtain rfl := oI_eq h2
    by_cases hC : C i j = true
    · rw [if_pos hC] at h; cases h
      have ey := rp_int s.rp
      have ex := rp_int s.drop.rp
      subst ex ey
      exact hr i j H Q hC (q _ _ Hf (Same.refl _) (s.drop.drop.add (hf i j _)))
    · rw [if_neg hC] at h; cases h
  · cases h
theorem op2_I0 {K : PySem.W.Frag} (g : Int → Int → Int) : Op2 K (rI0 fun i j => .int (g i j)) (gII (fun _ _ => true) fun i j => .int (g i j)) := op2_int (fun _ _ _ => .int _) fun i j H Q _ q => ⟨i, j, rfl, rfl, q⟩
theorem op2_I {K : PySem.W.Frag} {C : Int → Int → Prop} {D : Int → Int → Bool} (g : Int → Int → Int) (hD : ∀ i j, D i j = true → C i j) : Op2 K (rI C fun i j => .int (g i j)) (gII D fun i j => .int (g i j)) := op2_int (fun _ _ _ => .int _) fun i j H Q d q => ⟨i, j, rfl, rfl, hD i j d, q⟩
section
variable {K : PySem.W.Frag} {Hf Hf' : Hg} {H H' : Hp} {its A B : Its} {F : Fr} {bs : Bs} {v w x y : V} {a b o : OV} {d : PyData} {p : Addr}
theorem SX.freeze2 (s : SX K Hf ((y, b) :: (x, a) :: its) F H) : ∃ Hf', Same Hf Hf' ∧ SX K Hf' ((y, .sh (fz b)) :: (x, .sh (fz a)) :: its) F H := by
  obtain ⟨H1, s1, h1⟩ := s.freeze
  obtain ⟨H2, s2, h2⟩ := (h1.perm (List.Perm.swap _ _ _)).freeze
  exact ⟨H2, s1.trans s2, h2.perm (List.Perm.swap _ _ _)⟩
theorem SX.mkTup {xs : List V} {ds : List PyData} (s : SX K Hf its F H) (r : RpAll K Hf xs ds) (hp : H p = none) : SX K (Hf.up p (.tup xs)) ((.ref p, .sh (.tuple ds)) :: its) F (upd H p (.tup xs)) ∧ Same Hf (Hf.up p (.tup xs)) := by
  obtain ⟨s', sm⟩ := s.new (u := .tup xs) hp
  exact ⟨s'.add (.tup upd_same (r.mono (.of sm))), sm⟩
theorem SX.learn {xs : List V} {ds : List PyData} (s : SX K Hf its F H) (hq : H p = some (.tup xs)) (r : RpAll K Hf xs ds) : ∃ Hf', Same Hf Hf' ∧ SX K Hf' ((.ref p, .sh (.tuple ds)) :: its) F H := by
  cases q : Hf.h p with
  | some o =>
    have e : o = .tup xs := by
      rcases s.sub.1 p o q with z | ⟨(⟨kvs, rfl⟩ | ⟨kvs, rfl⟩), ob, z⟩
      · exact (Option.some.inj (hq.symm.trans z)).symm
      · have := hq.symm.trans z; cases this
      · have := hq.symm.trans z; cases this
    subst e
    exact ⟨Hf, Same.refl _, s.add (.tup q r)⟩
  | none =>
    have sm : Same Hf (Hf.up p (.tup xs)) := same_l2 fun b x z => by
      have : b ≠ p := fun e => by rw [e, q] at z; cases z
      show upd _ _ _ _ = _
      rw [upd_ne this]; exact z
    obtain ⟨⟨bs, h, n, a⟩, e, mm⟩ := s
    refine ⟨Hf.up p (.tup xs), sm, SX.add ⟨⟨bs, h.mono (.of sm), n, fun z hz => ⟨(a z hz).1, ?_⟩⟩, Ext.mkOn fun b x z => ?_, mm⟩ (.tup upd_same (r.mono (.of sm)))⟩
    · by_cases ez : z.1 = p
      · have h1 := (a z hz).1
        rw [ez] at h1
        have h1 : H p = some z.2 := h1
        rw [hq] at h1
        refine .inr ⟨xs, (Option.some.inj h1).symm, ?_⟩
        rw [ez]; exact upd_same
      · exact (a z hz).2.to (upd_ne ez)
    · have z : upd Hf.h p (.tup xs) b = some x := z
      by_cases eb : b = p
      · subst eb
        rw [upd_same] at z
        cases z
        exact .inl hq
      · rw [upd_ne eb] at z
        exact e.1 b x z
theorem SX.mkLst {xs : List V} {ds : List PyData} (s : SX K Hf its F H) (r : RpAll K Hf xs ds) (hp : H p = none) : SX K Hf ((.ref p, .lst (ds.map .sh)) :: its) F (upd H p (.lst xs)) :=
  SX.newOwn (C := []) s hp fun bs h => by
    cases h
    exact .lst (OwnL.of_rp r)
end
section
variable {X : Cx} {W : WX} {e a b c : Expr} {f fa fb fc : Rho → Re} {pos : Pos} {n : Nat}
theorem OpR.or {f : Value → Value → Sem Value} {r r' : R2} (h : OpR X f r) (h' : OpR X f r') : OpR X f (fun x y H Q => r x y H Q ∨ r' x y H Q) :=
  fun pins s σ H x y v u Q I rx ry q => q.elim (h pins s σ H x y v u Q I rx ry) (h' pins s σ H x y v u Q I rx ry)
def rCatR (K : PySem.W.Frag) : R2 := fun x y H Q => ∃ l b xs zs, x = .ref l ∧ y = .ref b ∧ SqL K H l xs ∧ SqL K H b zs ∧ xs.length + zs.length ≤ sizeLine ∧ ∀ p, H p = none → Q (.ref p) (upd H p (.lst (xs ++ zs)))
theorem op_catR : OpR X (binaryOp .Add) (rCatR X.K) := by
  intro pins s σ H x y v u Q I rx ry ⟨l, b, xs, zs, e1, e2, hH, hB, hz, q⟩
  subst e1 e2
  cases rx
  cases ry
  obtain ⟨its1, v1, ⟨⟨k1, d1, dat1, sl1⟩, n1, g1, c1, _, h1⟩, _⟩ := I.list hH
  obtain ⟨its2, v2, ⟨⟨k2, d2, dat2, sl2⟩, n2, g2, c2, _, h2⟩, _⟩ := I.list hB
  simp only at c1 h1 c2 h2
  subst c1 h1 c2 h2
  have l1 := v1.length
  have l2 := v2.length
  refine concat_meets ⟨_, g1, rfl⟩ ⟨_, g2, rfl⟩ noFill_list_add seq_list_add PySem.F.slot_list_add PySem.F.entry_list_add (PySem.F.args_list_add_2 _ _) (list_addW l b its1.toArray its2.toArray n1 n2 d1 d2 sl1 sl2 (by simp only [List.size_toArray]; omega)) ⟨g1, g2, ?_⟩
  rw [show its1.toArray ++ its2.toArray = (its1 ++ its2).toArray from by simp]
  exact ⟨.ref _, _, I.lnew (t' := s.toks) (v1.append v2) (by rw [List.length_append]; omega), rfl, q _ I.fresh⟩
def gAdd (a b : OV) : Option OV := match fz a, fz b with
  | .int i, .int j => some (.sh (.int (i + j)))
  | .str x, .str y => if x.length + y.length ≤ sizeLine then some (.sh (.str (x ++ y))) else none
  | .tuple xs, .tuple ys => if xs.length + ys.length ≤ sizeLine then some (.sh (.tuple (xs ++ ys))) else none
  | .list xs, .list ys => if xs.length + ys.length ≤ sizeLine then some (.lst ((xs ++ ys).map .sh)) else none
  | _, _ => none
abbrev rAddS : R2 := fun x y H Q => ∃ i j, x = .str i ∧ y = .str j ∧ i.length + j.length ≤ sizeLine ∧ Q (.str (i ++ j)) H
def rAdd (K : PySem.W.Frag) : R2 := fun x y H Q => rI0 (fun i j => .int (i + j)) x y H Q ∨ (rAddS x y H Q ∨ (rCatA K x y H Q ∨ rCatR K x y H Q))
theorem op_addAll : OpR X (binaryOp .Add) (rAdd X.K) := OpR.or op_add (OpR.or op_add_str (OpR.or op_catA op_catR))
theorem op2_add {K : PySem.W.Frag} : Op2 K (rAdd K) gAdd := by
  intro Hf its F H x y a b c Q s h q
  obtain ⟨Hf', sm, s'⟩ := s.freeze2
  have q' : ∀ v H' Hf2, Same Hf' Hf2 → SX K Hf2 ((v, c) :: its) F H' → Q v H' := fun v H' Hf2 z => q v H' Hf2 (sm.trans z)
  unfold gAdd at h
  generalize fz a = da at *
  generalize fz b = db at *
  have ry := s'.rp
  have rx := s'.drop.rp
  have s2 := s'.drop.drop
  split at h
  · cases h
    have e1 := rp_int rx
    have e2 := rp_int ry
    subst e1 e2
    exact .inl ⟨_, _, rfl, rfl, q' _ _ _ (Same.refl _) (s2.add (.int _))⟩
  · split at h
    · rename_i hz
      cases h
      have e1 := rp_str rx
      have e2 := rp_str ry
      subst e1 e2
      exact .inr (.inl ⟨_, _, rfl, rfl, hz, q' _ _ _ (Same.refl _) (s2.add (.str _))⟩)
    · cases h
  · split at h
    · rename_i hz
      cases h
      obtain ⟨p1, xs, rfl, t1, r1⟩ := rx.sqT
      obtain ⟨p2, ys, rfl, t2, r2⟩ := ry.sqT
      refine .inr (.inr (.inl ⟨p1, p2, xs, ys, rfl, rfl, s'.sub.sqT t1, s'.sub.sqT t2, by rw [r1.len, r2.len]; exact hz, fun e => ?_, fun _ e => ?_, fun e1 e2 p hp => ?_⟩))
      · subst e
        cases r1
        exact q' _ _ _ (Same.refl _) (s2.add ry)
      · subst e
        cases r2
        rw [List.append_nil] at q'
        exact q' _ _ _ (Same.refl _) (s2.add rx)
      · obtain ⟨s3, sm3⟩ := s2.mkTup (r1.append r2) hp
        exact q' _ _ _ sm3 s3
    · cases h
  · split at h
    · rename_i hz
      cases h
      obtain ⟨p1, xs, rfl, t1, r1⟩ := rx.sqL
      obtain ⟨p2, ys, rfl, t2, r2⟩ := ry.sqL
      exact .inr (.inr (.inr ⟨p1, p2, xs, ys, rfl, rfl, s'.sub.sqL t1, s'.sub.sqL t2, by rw [r1.len, r2.len]; exact hz, fun p hp => q' _ _ _ (Same.refl _) (s2.mkLst (r1.append r2) hp)⟩))
    · cases h
  · cases h
theorem ev_add (ha : EvE X W a fa) (hb : EvE X W b fb) : EvE X W (.BinOp a .Add b pos) (eBin gAdd fa fb) := ev_op op_addAll op2_add ha hb
theorem ev_sub (ha : EvE X W a fa) (hb : EvE X W b fb) : EvE X W (.BinOp a .Sub b pos) (eBin (gII (fun _ _ => true) fun i j => .int (i - j)) fa fb) := ev_op op_sub (op2_I0 fun i j => i - j) ha hb
def mulOk (i j : Int) : Bool := decide (-(2 ^ 64) < i ∧ i < 2 ^ 64) || decide (-(2 ^ 64) < j ∧ j < 2 ^ 64) || decide (i.natAbs.log2 + j.natAbs.log2 < 1000000)
theorem op_mulAll : OpR X (binaryOp .Mult) (rI (fun i j => mulOk i j = true) fun i j => .int (i * j)) := by
  intro pins s σ H x y v u Q I rx ry h
  obtain ⟨i, j, rfl, rfl, hc, q⟩ := h
  unfold mulOk at hc
  rw [Bool.or_eq_true, Bool.or_eq_true] at hc
  rcases hc with (hc | hc) | hc
  · exact op_mul pins s σ H _ _ v u Q I rx ry ⟨i, j, rfl, rfl, .inl (of_decide_eq_true hc), q⟩
  · exact op_mul pins s σ H _ _ v u Q I rx ry ⟨i, j, rfl, rfl, .inr (of_decide_eq_true hc), q⟩
  · exact op_mulW pins s σ H _ _ v u Q I rx ry ⟨i, j, rfl, rfl, (show i.natAbs.log2 + j.natAbs.log2 < 1000000 from of_decide_eq_true hc), q⟩
theorem ev_mul (ha : EvE X W a fa) (hb : EvE X W b fb) : EvE X W (.BinOp a .Mult b pos) (eBin (gII mulOk fun i j => .int (i * j)) fa fb) := ev_op op_mulAll (op2_I (fun i j => i * j) fun _ _ h => h) ha hb
theorem ev_mod (ha : EvE X W a fa) (hb : EvE X W b fb) : EvE X W (.BinOp a .Mod b pos) (eBin (gII (fun _ j => decide (0 < j)) fun i j => .int (i % j)) fa fb) := ev_op op_mod (op2_I (fun i j => i % j) fun _ _ h => of_decide_eq_true h) ha hb
def divOk (_ j : Int) : Bool := decide (0 < j) && decide (j.natAbs.log2 < 9000)
theorem ev_fdiv (ha : EvE X W a fa) (hb : EvE X W b fb) : EvE X W (.BinOp a .FloorDiv b pos) (eBin (gII divOk fun i j => .int (i / j)) fa fb) := ev_op op_fdivW (op2_I (fun i j => i / j) fun i j h => by
  unfold divOk at h
  rw [Bool.and_eq_true] at h
  exact ⟨of_decide_eq_true h.1, of_decide_eq_true h.2⟩) ha hb
def powOk (i j : Int) : Bool := decide (0 ≤ j) && decide ((Builtin.Int.intBits i : Int) * j ≤ 2 ^ 27)
theorem op_powW : OpR X (binaryOp .Pow) (rI (fun i j => powOk i j = true) fun i j => .int (i ^ j.toNat)) := opI fun i j _ _ _ _ _ hc q => by
  unfold powOk at hc
  rw [Bool.and_eq_true] at hc
  exact PyProof.Rows.pow_int (of_decide_eq_true hc.1) (of_decide_eq_true hc.2) q
theorem ev_pow (ha : EvE X W a fa) (hb : EvE X W b fb) : EvE X W (.BinOp a .Pow b pos) (eBin (gII powOk fun i j => .int (i ^ j.toNat)) fa fb) := ev_op op_powW (op2_I (fun i j => i ^ j.toNat) fun _ _ h => h) ha hb
def shlOk (i j : Int) : Bool := decide (0 ≤ j ∧ j ≤ 1000000 ∧ i.natAbs < 2 ^ 64)
def gI (f : Int → PyData) (a : OV) : Option OV := match oI a with
  | some i => some (.sh (f i))
  | none => none
open PySem.SeqAt in
def gOrd (fi : Int → Int → Bool) (fd : PyData → PyData → Bool) (a b : OV) : Option OV := match fz a, fz b with
  | .int i, .int j => some (.sh (.bool (fi i j)))
  | .tuple xs, .tuple ys => if PySem.W.alike (.tuple xs) (.tuple ys) = true ∧ SeqAt.shaped (.tuple xs) = true ∧ SeqAt.shaped (.tuple ys) = true then some (.sh (.bool (fd (.tuple xs) (.tuple ys)))) else none
  | _, _ => none
abbrev rOrdD (K : PySem.W.Frag) (fd : PyData → PyData → Bool) : R2 := fun x y H Q => ∃ d e, Dp K H x d ∧ Dp K H y e ∧ SeqAt.shaped d = true ∧ SeqAt.shaped e = true ∧ PySem.W.alike d e = true ∧ d ≠ .none ∧ Q (.bl (fd d e)) H
theorem op_ordD {op : CmpOp} {fd : PyData → PyData → Bool} (hu : X.A.units + 65 < cLine)
    (rule : ∀ (s : Shared) (a b : Value) (da db : PyData) (as bs : List Addr) (Q : Value → Shared → Prop) (E : Value → Shared → Prop), Reads s.heap a da as → Reads s.heap b db bs → PySem.W.alike da db = true → da ≠ .none → X.A.units + min da.depth db.depth < cLine → Q (.bool (fd da db)) s → wpAny (model X.prog X.w) X.A (compareOp op a b) Q E s) :
    OpR X (compareOp op) (rOrdD X.K fd) := by
  intro pins s σ H x y v u Q I rx ry h
  obtain ⟨d, e, hd, he, sd, se, al, hn, q⟩ := h
  obtain ⟨as, r1⟩ := Dp.reads I d x v hd rx
  obtain ⟨bs, r2⟩ := Dp.reads I e y u he ry
  exact rule s v u d e as bs _ _ r1 r2 al hn (SeqAt.room_of_shaped sd (by omega)) ⟨.bl _, H, I, rfl, q⟩
abbrev rOrd (K : PySem.W.Frag) (fi : Int → Int → Bool) (fd : PyData → PyData → Bool) : R2 := fun x y H Q => rI0 (fun i j => .bl (fi i j)) x y H Q ∨ rOrdD K fd x y H Q
theorem op2_ord {K : PySem.W.Frag} (fi : Int → Int → Bool) (fd : PyData → PyData → Bool) : Op2 K (rOrd K fi fd) (gOrd fi fd) := by
  intro Hf its F H x y a b c Q s h q
  have ry := s.rdH
  have rx := s.drop.rdH
  have s2 := s.drop.drop
  unfold gOrd at h
  generalize fz a = da at *
  generalize fz b = db at *
  split at h
  · cases h
    have e1 := rp_int rx
    have e2 := rp_int ry
    subst e1 e2
    exact .inl ⟨_, _, rfl, rfl, q _ _ _ (Same.refl _) (s2.add (.bl _))⟩
  · split at h
    · rename_i hc
      cases h
      exact .inr ⟨_, _, rx.dp (SeqAt.canLay_of_shaped hc.2.1), ry.dp (SeqAt.canLay_of_shaped hc.2.2), hc.2.1, hc.2.2, hc.1, (by intro z; cases z), q _ _ _ (Same.refl _) (s2.add (.bl _))⟩
    · cases h
  · cases h
abbrev gLt := gOrd (fun i j => decide (i < j)) PySem.W.dataLt
abbrev gGt := gOrd (fun i j => decide (j < i)) (fun d e => PySem.W.dataLt e d)
abbrev gLe := gOrd (fun i j => decide (i ≤ j)) (fun d e => !PySem.W.dataLt e d)
abbrev gGe := gOrd (fun i j => decide (j ≤ i)) (fun d e => !PySem.W.dataLt d e)
theorem opr_lt {n : Nat} (G : Good X W n) : OpR X (compareOp .Lt) (rOrd X.K (fun i j => decide (i < j)) PySem.W.dataLt) := OpR.or op_lt (op_ordD G.hu fun s a b da db as bs Q E r1 r2 al hn hu q => PySem.W.lt_data r1 r2 al hn hu q)
theorem opr_gt {n : Nat} (G : Good X W n) : OpR X (compareOp .Gt) (rOrd X.K (fun i j => decide (j < i)) (fun d e => PySem.W.dataLt e d)) := OpR.or op_gt (op_ordD G.hu fun s a b da db as bs Q E r1 r2 al hn hu q => PySem.W.gt_data r1 r2 al hn hu q)
theorem opr_le {n : Nat} (G : Good X W n) : OpR X (compareOp .LtE) (rOrd X.K (fun i j => decide (i ≤ j)) (fun d e => !PySem.W.dataLt e d)) := OpR.or op_le (op_ordD G.hu fun s a b da db as bs Q E r1 r2 al hn hu q => PySem.W.le_data r1 r2 al hn hu q)
theorem opr_ge {n : Nat} (G : Good X W n) : OpR X (compareOp .GtE) (rOrd X.K (fun i j => decide (j ≤ i)) (fun d e => !PySem.W.dataLt d e)) := OpR.or op_ge (op_ordD G.hu fun s a b da db as bs Q E r1 r2 al hn hu q => PySem.W.ge_data r1 r2 al hn hu q)
theorem ec_lt {n : Nat} (G : Good X W n) (ha : EvE X W a fa) (hb : EvE X W b fb) : EvC X W .Lt a b (eBin gLt fa fb) := ec_op (opr_lt G) (op2_ord _ _) ha hb
theorem ec_gt {n : Nat} (G : Good X W n) (ha : EvE X W a fa) (hb : EvE X W b fb) : EvC X W .Gt a b (eBin gGt fa fb) := ec_op (opr_gt G) (op2_ord _ _) ha hb
theorem ec_le {n : Nat} (G : Good X W n) (ha : EvE X W a fa) (hb : EvE X W b fb) : EvC X W .LtE a b (eBin gLe fa fb) := ec_op (opr_le G) (op2_ord _ _) ha hb
theorem ec_ge {n : Nat} (G : Good X W n) (ha : EvE X W a fa) (hb : EvE X W b fb) : EvC X W .GtE a b (eBin gGe fa fb) := ec_op (opr_ge G) (op2_ord _ _) ha hb
def gEq (neg : Bool) (a b : OV) : Option OV := if SeqAt.shaped (fz a) = true ∧ SeqAt.shaped (fz b) = true then some (.sh (.bool (neg ^^ PyData.eqv (fz a) (fz b)))) else none
theorem op2_eq {K : PySem.W.Frag} : Op2 K (rEqD K) (gEq false) := by
  intro Hf its F H x y a b c Q s h q
  unfold gEq at h
  split at h
  · rename_i hc
    cases h
    exact ⟨_, _, s.drop.rdH.dp (SeqAt.canLay_of_shaped hc.1), s.rdH.dp (SeqAt.canLay_of_shaped hc.2), hc.1, hc.2, q _ _ _ (Same.refl _) (s.drop.drop.add (by rw [Bool.false_xor]; exact .bl _))⟩
  · cases h
theorem op2_ne {K : PySem.W.Frag} : Op2 K (rNeD K) (gEq true) := by
  intro Hf its F H x y a b c Q s h q
  unfold gEq at h
  split at h
  · rename_i hc
    cases h
    exact ⟨_, _, s.drop.rdH.dp (SeqAt.canLay_of_shaped hc.1), s.rdH.dp (SeqAt.canLay_of_shaped hc.2), hc.1, hc.2, q _ _ _ (Same.refl _) (s.drop.drop.add (by rw [Bool.true_xor]; exact .bl _))⟩
  · cases h
theorem opr_eq {n : Nat} (G : Good X W n) : OpR X (compareOp .Eq) (rEqD X.K) := op_eqD (by have := G.hu; omega)
theorem opr_ne {n : Nat} (G : Good X W n) : OpR X (compareOp .NotEq) (rNeD X.K) := op_neD (by have := G.hu; omega)
theorem ec_eq {n : Nat} (G : Good X W n) (ha : EvE X W a fa) (hb : EvE X W b fb) : EvC X W .Eq a b (eBin (gEq false) fa fb) := ec_op (opr_eq G) op2_eq ha hb
theorem ec_ne {n : Nat} (G : Good X W n) (ha : EvE X W a fa) (hb : EvE X W b fb) : EvC X W .NotEq a b (eBin (gEq true) fa fb) := ec_op (opr_ne G) op2_ne ha hb
theorem SX.own {K : PySem.W.Frag} {Hf : Hg} {H : Hp} {its : Its} {F : Fr} {x : V} {a : OV} (s : SX K Hf ((x, a) :: its) F H) : ∃ bs, Own K Hf x a bs := by
  obtain ⟨⟨bs, h, _⟩, _⟩ := s
  cases h with
  | cons h _ => exact ⟨_, h⟩
end
section
variable {X : Cx} {W : WX} {e a b c : Expr} {es rest : List Expr} {f fa fb fc : Rho → Re} {ta tb : Rho → ReB} {fl : Rho → ReL} {pos : Pos} {n : Nat}
def toB (o : OV) (ρ : Rho) : ReB := match o with
  | .sh (.bool b) => .ok b ρ
  | _ => .stk
def eTest (f : Rho → Re) (ρ : Rho) : ReB := bindEB (f ρ) toB
theorem test_post {Hf : Hg} {T : Its} {ρ : Rho} {F : Bs} {σ : St} {H : Hp} {Q : Bool → Hp → Prop} (s : SI X.K Hf T ρ F σ H) (h : PostB X W Hf T F σ (eTest f ρ) Q) : tE X W f σ H fun x H1 => ∃ c, x = .bl c ∧ Q c H1 :=
  ⟨Hf, T, ρ, F, s, PostE.bindEB h fun o ρ1 x H1 Hf1 sm s1 h1 => by
    cases o with
    | sh d =>
      cases d with
      | bool k =>
        have e := rp_bl s1.rp
        subst e
        exact ⟨k, rfl, h1 H1 Hf1 (Same.refl _) s1.drop⟩
      | _ => exact h1.elim
    | _ => exact h1.elim⟩
theorem ee_cmp {op : CmpOp} (h : EvC X W op a b f) (h1 : behindInMarks op b = false := by first | exact nobehind _ (by decide) (by decide) | rfl) : EvE X W (.Compare a [op] [b] pos) f := pe_cmp h h1
theorem et_cmp {op : CmpOp} (h : EvC X W op a b f) (h1 : behindInMarks op b = false := by first | exact nobehind _ (by decide) (by decide) | rfl) : EvT X W (.Compare a [op] [b] pos) (eTest f) :=
  pt_w (pt_cmp h h1) fun σ H Q ⟨Hf, T, ρ, F, s, h⟩ => test_post s h
theorem et_val (h : EvE X W e f) (he : ∀ whole, isTrue e X.env whole = (do let v ← whole; standAt e.pos; holding [v] (truthy v)) := by intro _; rfl) : EvT X W e (eTest f) :=
  pt_w (pt_val h he) fun σ H Q ⟨Hf, T, ρ, F, s, h⟩ => test_post s h
def bNot (ta : Rho → ReB) (ρ : Rho) : ReB := bindBB (ta ρ) fun b ρ1 => .ok (!b) ρ1
theorem et_not (h : EvT X W a ta) : EvT X W (.UnaryOp .Not a pos) (bNot ta) := pt_w (pt_not h) fun σ H Q ⟨Hf, T, ρ, F, s, h⟩ =>
  ⟨Hf, T, ρ, F, s, PostB.bindBB h fun b ρ1 H1 Hf1 sm s1 h1 => h1 H1 Hf1 (Same.refl _) s1⟩
def EvW (X : Cx) (W : WX) (e : Expr) (f : Rho → ReB) : Prop := PW X e (tT X W f)
theorem et_w (h : EvW X W e ta) : EvT X W e ta := PW.pt h
theorem pw_w {X : Cx} {e : Expr} {t t' : TT} (h : PW X e t) (hw : ∀ σ H Q, t' σ H Q → t σ H Q) : PW X e t' := ⟨fun wh pins s σ H Q I h' => h.run wh pins s σ H Q I (hw σ H Q h')⟩
def bAnd (ta tb : Rho → ReB) (ρ : Rho) : ReB := bindBB (ta ρ) fun b ρ1 => if b = true then tb ρ1 else .ok false ρ1
def bOr (ta tb : Rho → ReB) (ρ : Rho) : ReB := bindBB (ta ρ) fun b ρ1 => if b = true then .ok true ρ1 else tb ρ1
theorem ew_and1 (h : EvT X W a ta) : EvW X W (.BoolOp .And [a] pos) ta := pw_and1 h
theorem ew_or1 (h : EvT X W a ta) : EvW X W (.BoolOp .Or [a] pos) ta := pw_or1 h
theorem ew_and (h : EvT X W a ta) (h2 : EvW X W (.BoolOp .And (b :: rest) pos) tb) : EvW X W (.BoolOp .And (a :: b :: rest) pos) (bAnd ta tb) := pw_w (pw_and h h2) fun σ H Q ⟨Hf, T, ρ, F, s, h⟩ =>
  ⟨Hf, T, ρ, F, s, PostB.bindBB h fun b ρ1 H1 Hf1 sm s1 h1 => by
    cases b with
    | true => rw [if_pos rfl]; exact ⟨Hf1, T, ρ1, F, s1, h1⟩
    | false => rw [if_neg Bool.false_ne_true]; exact h1 H1 Hf1 (Same.refl _) s1⟩
theorem ew_or (h : EvT X W a ta) (h2 : EvW X W (.BoolOp .Or (b :: rest) pos) tb) : EvW X W (.BoolOp .Or (a :: b :: rest) pos) (bOr ta tb) := pw_w (pw_or h h2) fun σ H Q ⟨Hf, T, ρ, F, s, h⟩ =>
  ⟨Hf, T, ρ, F, s, PostB.bindBB h fun b ρ1 H1 Hf1 sm s1 h1 => by
    cases b with
    | true => rw [if_pos rfl]; exact h1 H1 Hf1 (Same.refl _) s1
    | false => rw [if_neg Bool.false_ne_true]; exact ⟨Hf1, T, ρ1, F, s1, h1⟩⟩
def gNot (a : OV) : Option OV := match a with
  | .sh (.bool b) => some (.sh (.bool (!b)))
  | _ => none
def eAnd (fa fb : Rho → Re) (ρ : Rho) : Re := bindE (fa ρ) fun o ρ1 => match o with
  | .sh (.bool true) => fb ρ1
  | .sh (.bool false) => .ok (.sh (.bool false)) ρ1
  | _ => .stk
theorem ev_one {op} (h : EvE X W a f) : EvE X W (.BoolOp op [a] pos) f := pe_one h
theorem ev_and (h : EvE X W a fa) (h2 : EvE X W (.BoolOp .And (b :: rest) pos) fb) : EvE X W (.BoolOp .And (a :: b :: rest) pos) (eAnd fa fb) := pe_w (pe_and h h2) fun σ H Q ⟨Hf, T, ρ, F, s, h⟩ =>
  ⟨Hf, T, ρ, F, s, PostE.bind h fun o ρ1 x H1 Hf1 sm s1 h1 => by
    cases o with
    | sh d =>
      cases d with
      | bool k =>
        have e := rp_bl s1.rp
        subst e
        cases k with
        | true => exact ⟨true, rfl, by rw [if_pos rfl]; exact ⟨Hf1, T, ρ1, F, s1.drop, h1⟩⟩
        | false => exact ⟨false, rfl, by rw [if_neg Bool.false_ne_true]; exact h1 _ H1 Hf1 (Same.refl _) s1⟩
      | _ => exact h1.elim
    | _ => exact h1.elim⟩
def eChain (g g' : OV → OV → Option OV) (fa fb fc : Rho → Re) (ρ : Rho) : Re := bindE (fa ρ) fun x ρ1 => bindE (fb ρ1) fun y ρ2 => match g x y with
  | some (.sh (.bool true)) => bindE (fc ρ2) fun z ρ3 => ofO (g' y z) ρ3
  | some (.sh (.bool false)) => .ok (.sh (.bool false)) ρ2
  | _ => .stk
def LkD (g : OV → OV → Option OV) : Prop := ∀ x y, g x y = g (.sh (fz x)) (.sh (fz y)) ∧ g x y = g (.sh (fz x)) y
theorem chain_post {r r' : R2} {g g' : OV → OV → Option OV} (ho : Op2 X.K r g) (ho' : Op2 X.K r' g') {σ : St} {H : Hp} {Q : VK} {Hf : Hg} {T : Its} {ρ : Rho} {F : Bs} (hg : LkD g) (hg' : LkD g')
    (s : SI X.K Hf T ρ F σ H) (h : PostE X W Hf T F σ (eChain g g' fa fb fc ρ) Q) : tChain r r' (tE X W fa) (tE X W fb) (tE X W fc) σ H Q := by
  refine ⟨Hf, T, ρ, F, s, PostE.bind h fun x ρ1 v H1 Hf1 sm1 s1 h1 => ⟨Hf1, (v, x) :: T, ρ1, F, s1, PostE.bind h1 fun y ρ2 u H2 Hf2 sm2 s2 h2 => ?_⟩⟩
  rw [(hg x y).1] at h2
  simp only [fun z => (hg' y z).2] at h2
  obtain ⟨Hf2', smf, s2⟩ := s2.freeze
  obtain ⟨Hf2', smg, s2⟩ := (s2.perm (List.Perm.swap _ _ _)).freeze
  replace h2 := PostE.mono (smf.trans smg) h2
  have s2 := s2.perm (List.Perm.swap _ _ _)
  generalize fz x = d at *
  generalize fz y = e at *
  clear smf smg hg hg'
  cases q : g (.sh d) (.sh e) with
  | none => simp only [q] at h2; exact h2.elim
  | some o =>
    have ry := s2.rp
    have rx := s2.drop.rp
    obtain ⟨its, F2, s3, bk⟩ := s2.ex2
    refine ho Hf2' (T ++ its) F2 H2 v u _ _ o _ s3 q fun z H3 Hf3 sm3 s4 => ?_
    have s5 : SI X.K Hf3 ((z, o) :: T) ρ2 F σ H3 := bk _ _ _ sm3 s4
    cases o with
    | sh dd =>
      cases dd with
      | bool k =>
        have ez := rp_bl s5.rp
        subst ez
        simp only [q] at h2
        cases k with
        | true =>
          refine ⟨true, rfl, ?_⟩
          rw [if_pos rfl]
          refine ⟨Hf3, (u, .sh e) :: T, ρ2, F, s5.drop.add (ry.mono (.of sm3)), PostE.bind (PostE.mono sm3 h2) fun z ρ3 w H4 Hf4 sm4 s6 h6 => ?_⟩
          exact op_post ho' s6 h6
        | false =>
          refine ⟨false, rfl, ?_⟩
          rw [if_neg Bool.false_ne_true]
          exact h2 _ H3 Hf3 sm3 s5
      | _ => simp only [q] at h2; exact h2.elim
    | _ => simp only [q] at h2; exact h2.elim
theorem gOrd_sh2 {fi : Int → Int → Bool} {fd : PyData → PyData → Bool} : LkD (gOrd fi fd) := fun x y => by
  constructor <;> simp [gOrd, fz]
theorem et_chain {op op' : CmpOp} {r r' : R2} {g g' : OV → OV → Option OV} (hr : OpR X (compareOp op) r) (hr' : OpR X (compareOp op') r') (ho : Op2 X.K r g) (ho' : Op2 X.K r' g') (hg : LkD g) (hg' : LkD g')
    (ha : EvE X W a fa) (hb : EvE X W b fb) (hc : EvE X W c fc) (hm : lastMarks [op, op'] [b, c] = false := by with_unfolding_all rfl) : EvT X W (.Compare a [op, op'] [b, c] pos) (eTest (eChain g g' fa fb fc)) :=
  pt_w (pt_chain hr hr' ha hb hc hm) fun σ H Q ⟨Hf, T, ρ, F, s, h⟩ => by
    have z := test_post (f := eChain g g' fa fb fc) s h
    obtain ⟨Hf', T', ρ', F', s', h'⟩ := z
    exact chain_post ho ho' hg hg' s' h'
theorem et_lelt (G : Good X W n) (ha : EvE X W a fa) (hb : EvE X W b fb) (hc : EvE X W c fc) (hm : lastMarks [.LtE, .Lt] [b, c] = false := by with_unfolding_all rfl) : EvT X W (.Compare a [.LtE, .Lt] [b, c] pos) (eTest (eChain gLe gLt fa fb fc)) := et_chain (opr_le G) (opr_lt G) (op2_ord _ _) (op2_ord _ _) gOrd_sh2 gOrd_sh2 ha hb hc hm
def lNil (ρ : Rho) : ReL := .ok [] ρ
def lCons (f : Rho → Re) (g : Rho → ReL) (ρ : Rho) : ReL := bindEL (f ρ) fun o ρ1 => bindLL (g ρ1) fun os ρ2 => .ok (o :: os) ρ2
theorem el_nil : EvL X W [] lNil := pa_w pa_nil fun σ H Q ⟨Hf, T, ρ, F, s, h⟩ => h [] H Hf rfl (Same.refl _) s
theorem el_cons (he : EvE X W e f) (hr : EvL X W es fl) (hs : starEach (e :: es) X.env = (false, eval e X.env) :: starEach es X.env := by rfl) : EvL X W (e :: es) (lCons f fl) := pa_w (pa_cons he hr hs) fun σ H Q ⟨Hf, T, ρ, F, s, h⟩ =>
  ⟨Hf, T, ρ, F, s, PostE.bindEL h fun o ρ1 v H1 Hf1 sm s1 h1 => ⟨Hf1, (v, o) :: T, ρ1, F, s1, PostL.bindLL h1 fun os ρ2 vs H2 Hf2 l sm2 s2 h2 =>
    h2 (v :: vs) H2 Hf2 (by simp [l]) (Same.refl _) (s2.perm (by simp only [List.zip_cons_cons, List.cons_append]; exact List.perm_middle))⟩⟩
section
variable {K : PySem.W.Frag} {Hf : Hg} {H : Hp} {its : Its} {F : Bs}
theorem SX.freezeAll {F : Fr} : ∀ (vs : List V) (os : List OV) (Hf : Hg), vs.length = os.length → SX K Hf (vs.zip os ++ its) F H → ∃ Hf', Same Hf Hf' ∧ RpAll K Hf' vs (os.map fz) ∧ SX K Hf' its F H
  | [], [], Hf, _, s => ⟨Hf, Same.refl _, .nil, s⟩
  | v :: vs, o :: os, Hf, l, s => by
    obtain ⟨H1, sm1, s1⟩ := SX.freeze (its := vs.zip os ++ its) s
    obtain ⟨H2, sm2, r, s2⟩ := SX.freezeAll vs os H1 (by simpa using l) s1.drop
    exact ⟨H2, sm1.trans sm2, .cons (s1.rp.mono (.of sm2)) r, s2⟩
theorem SI.freezeAll {vs : List V} {os : List OV} {T : Its} {ρ : Rho} {σ : St} (l : vs.length = os.length) (s : SI K Hf (vs.zip os ++ T) ρ F σ H) : ∃ Hf', Same Hf Hf' ∧ RpAll K Hf' vs (os.map fz) ∧ SI K Hf' T ρ F σ H := by
  obtain ⟨its, F2, s, bk⟩ := s.ex2
  rw [List.append_assoc] at s
  obtain ⟨Hf', sm, r, s'⟩ := SX.freezeAll vs os Hf l s
  exact ⟨Hf', sm, r, bk _ _ _ sm s'⟩
end
def eTup (fl : Rho → ReL) (ρ : Rho) : Re := bindL (fl ρ) fun os ρ1 => if os.length ≤ sizeLine then .ok (.sh (.tuple (os.map fz))) ρ1 else .stk
def eLst (fl : Rho → ReL) (ρ : Rho) : Re := bindL (fl ρ) fun os ρ1 => if os.length ≤ sizeLine then .ok (.lst os) ρ1 else .stk
theorem ev_tup {x1} (h : EvL X W es fl) : EvE X W (.Tuple es x1 pos) (eTup fl) := pe_w (pe_tup h) fun σ H Q ⟨Hf, T, ρ, F, s, h⟩ =>
  ⟨Hf, T, ρ, F, s, PostL.bind h fun os ρ1 vs H1 Hf1 l sm s1 h1 => by
    by_cases hz : os.length ≤ sizeLine
    · rw [if_pos hz] at h1
      refine ⟨by rw [l]; exact hz, fun p hp => ?_⟩
      obtain ⟨Hf2, sm2, r, s2⟩ := s1.freezeAll l
      obtain ⟨its, F2, s3, bk⟩ := s2.ex2
      obtain ⟨s4, sm3⟩ := s3.mkTup r hp
      exact h1 _ _ _ (sm2.trans sm3) (bk ((_, _) :: T) _ _ sm3 s4)
    · rw [if_neg hz] at h1; exact h1.elim⟩
theorem ev_lst (h : EvL X W es fl) : EvE X W (.List es pos) (eLst fl) := pe_w (pe_lst h) fun σ H Q ⟨Hf, T, ρ, F, s, h⟩ =>
  ⟨Hf, T, ρ, F, s, PostL.bind h fun os ρ1 vs H1 Hf1 l sm s1 h1 => by
    by_cases hz : os.length ≤ sizeLine
    · rw [if_pos hz] at h1
      refine ⟨by rw [l]; exact hz, fun p hp => ?_⟩
      obtain ⟨its, F2, s3, bk⟩ := s1.ex2
      rw [List.append_assoc] at s3
      have s4 := s3.newOwn (u := .lst vs) (o := .lst os) hp fun bs hb => .lst (OwnI.lst l hb)
      exact h1 _ _ _ (Same.refl _) (bk ((_, _) :: T) _ _ (Same.refl _) s4)
    · rw [if_neg hz] at h1; exact h1.elim⟩
end
def PostP (K : PySem.W.Frag) (mg : Str → Option Value) (Hf : Hg) (F : Bs) (r : Rv) (Q : VK) (E : XK) : Prop :=
  match r with
  | .ok o st => ∀ v H' Hf' sb, Same Hf Hf' → StoL K Hf' Hf'.m st sb → SX K Hf' [(v, o)] (fr (sb ++ F) Hf'.m) H' → Q v H'
  | .exc e st => ∀ H' Hf' cls d sb, Same Hf Hf' → StoL K Hf' Hf'.m st sb → SX K Hf' [] (fr (sb ++ F) Hf'.m) H' → ExnIs mg K Hf' H' e cls d → E cls d H'
  | .stk => False
def spP (K : PySem.W.Frag) (mg : Str → Option Value) (n : Nat) (g : List PyData → List SO → Rv) : Sp := fun vs H Q E =>
  ∃ Hf ds st sb F, vs.length = n ∧ RpAll K Hf vs ds ∧ StoL K Hf Hf.m st sb ∧ SX K Hf [] (fr (sb ++ F) Hf.m) H ∧ PostP K mg Hf F (g ds st) Q E
structure FnT (P : Program) (w : World) (K : PySem.W.Frag) (mg : Str → Option Value) (base : Heap) (x : Str) (k n : Nat) (g : List PyData → List SO → Rv) : Prop where
  ex : ∃ (f : Addr) (fd : FuncData) (ps : List Str), mg x = some (.ref f) ∧ PySem.W.keepIn K (.ref f) = true ∧ Binds K fd ps [] ∧ FnOk P w K mg base (L2.CX P w) k f fd ps (spP K mg n g)
def ofRv (r : Rv) (ρ : Rho) : Re := match r with
  | .ok o st => .ok o ⟨ρ.sl, st⟩
  | .exc e st => .exc e ⟨ρ.sl, st⟩
  | .stk => .stk
def eCall (g : List PyData → List SO → Rv) (fl : Rho → ReL) (ρ : Rho) : Re := bindL (fl ρ) fun os ρ1 => ofRv (g (os.map fz) ρ1.st) ρ1
theorem SI.calls {K : PySem.W.Frag} {Hf : Hg} {A T : Its} {ρ : Rho} {F : Bs} {σ : St} {H : Hp} (s : SI K Hf (A ++ T) ρ F σ H) : ∃ sb bs, StoL K Hf Hf.m ρ.st sb ∧ SX K Hf A (fr (sb ++ (bs ++ F)) Hf.m) H ∧
    ∀ Hf' H' A' st' sb', Same Hf Hf' → StoL K Hf' Hf'.m st' sb' → SX K Hf' A' (fr (sb' ++ (bs ++ F)) Hf'.m) H' → SI K Hf' (A' ++ T) ⟨ρ.sl, st'⟩ F σ H' := by
  obtain ⟨its, sb, h, hs, s⟩ := s.ex
  rw [List.append_assoc] at s
  obtain ⟨bs, hB, s'⟩ := s.frame
  have swap : ∀ {G : Hg} {A : Its} {H : Hp} {sb : Bs} {m : List Addr}, SX K G A (fr (bs ++ (sb ++ F)) m) H → SX K G A (fr (sb ++ (bs ++ F)) m) H := fun q => q.frPerm (List.perm_append_comm_assoc _ _ _)
  have swap' : ∀ {G : Hg} {A : Its} {H : Hp} {sb : Bs} {m : List Addr}, SX K G A (fr (sb ++ (bs ++ F)) m) H → SX K G A (fr (bs ++ (sb ++ F)) m) H := fun q => q.frPerm (List.perm_append_comm_assoc _ _ _)
  refine ⟨sb, bs, hs, swap s', fun Hf' H' A' st' sb' sm t q => ⟨its, sb', h, t, ?_⟩⟩
  rw [List.append_assoc]
  exact SX.unframe (bs := bs) (F := fr (sb' ++ F) Hf'.m) (swap' q) (hB.mono (.of sm))
section
variable {X : Cx} {W : WX} {e a b c : Expr} {es rest : List Expr} {f fa fb fc : Rho → Re} {ta tb : Rho → ReB} {fl : Rho → ReL} {p pos : Pos} {n m k : Nat} {x : Str} {g : List PyData → List SO → Rv}
theorem call_post {Hf : Hg} {T : Its} {ρ : Rho} {F : Bs} {σ : St} {H : Hp} {Q : VK} {vs : List V} {os : List OV} (hn : os.length = n) (l : vs.length = os.length) (s : SI X.K Hf (vs.zip os ++ T) ρ F σ H) (h : PostE X W Hf T F σ (ofRv (g (os.map fz) ρ.st) ρ) Q) :
    spP X.K X.mg n g vs H Q (WE W σ) := by
  obtain ⟨Hf1, sm, r, s1⟩ := s.freezeAll l
  obtain ⟨sb, bs, t, s2, back⟩ := SI.calls (A := []) (T := T) s1
  refine ⟨Hf1, os.map fz, ρ.st, sb, bs ++ F, by rw [l, hn], r, t, s2, ?_⟩
  cases q : g (os.map fz) ρ.st with
  | ok o st =>
    rw [q] at h
    exact fun v H' Hf' sb' sm' t' s' => h v H' Hf' (sm.trans sm') (back Hf' H' [(v, o)] st sb' sm' t' s')
  | exc e st =>
    rw [q] at h
    exact fun H' Hf' cls d sb' sm' t' s' x => h H' Hf' cls d (sm.trans sm') (back Hf' H' [] st sb' sm' t' s').dropT x
  | stk => rw [q] at h; exact h
theorem ev_call (G : Good X W m) (Fn : FnT X.prog X.w X.K X.mg X.base x k n g) (hk : k ≤ m) (hg : Gl X x) (hl : EvL X W (e :: es) fl) (hn : (e :: es).length = n := by rfl) (hdb : (x == ("__debug__" : Str)) = false := by decide)
    (he : starEach (e :: es) X.env = (false, eval e X.env) :: starEach es X.env := by rfl) (hpl : (backTo pos (starEach es X.env)).any (·.1) = false := by rfl)
    (hfl : ∀ ρ os ρ', fl ρ = .ok os ρ' → os.length = (e :: es).length) : EvE X W (.Call (.Name x p) (e :: es) [] pos) (eCall g fl) := by
  obtain ⟨f, fd, ps, hm, kp, hb, F⟩ := Fn.ex
  refine pe_w (pe_callSD F (G.hr.mono hk) hg hm kp hb .nil (fun σ => passAt G.tk σ) hl hdb he hpl) fun σ H Q ⟨Hf, T, ρ, F, s, h⟩ => ?_
  refine ⟨Hf, T, ρ, F, s, ?_⟩
  unfold eCall at h
  cases q : fl ρ with
  | ok os ρ1 =>
    rw [q] at h
    intro vs H1 Hf1 l sm s1
    have := call_post (Q := Q) (by rw [hfl ρ os ρ1 q, hn]) l s1 (PostE.mono sm h)
    simpa using this
  | exc e ρ1 => rw [q] at h; exact h
  | stk => rw [q] at h; exact h
theorem ll_nil : ∀ ρ os ρ', lNil ρ = .ok os ρ' → os.length = 0 := fun ρ os ρ' h => by unfold lNil at h; cases h; rfl
theorem ll_cons {k : Nat} (h : ∀ ρ os ρ', fl ρ = .ok os ρ' → os.length = k) : ∀ ρ os ρ', lCons f fl ρ = .ok os ρ' → os.length = k + 1 := fun ρ os ρ' q => by
  unfold lCons bindEL at q
  cases q1 : f ρ with
  | ok o ρ1 =>
    simp only [q1, bindLL] at q
    cases q2 : fl ρ1 with
    | ok os2 ρ2 =>
      simp only [q2] at q
      cases q
      simp [h _ _ _ q2]
    | exc e ρ2 => simp only [q2] at q; cases q
    | stk => simp only [q2] at q; cases q
  | exc e ρ1 => simp only [q1] at q; cases q
  | stk => simp only [q1] at q; cases q
def outRv (r : Out) : Rv := match r with
  | .next ρ => .ok (.sh .none) ρ.st
  | .ret o ρ => .ok o ρ.st
  | .exc e ρ => .exc e ρ.st
  | _ => .stk
def runP (m : Nat) (body : Rho → Out) (ds : List PyData) (st : List SO) : Rv := outRv (body ⟨ds.map (fun d => some (.sh d)) ++ List.replicate (m - ds.length) none, st⟩)
theorem slots_start : ∀ {vs : List V} {ds : List PyData} (k : Nat), vs.length = ds.length → Slots (vs.map some ++ List.replicate k none) (ds.map (fun d => some (.sh d)) ++ List.replicate k none) (vs.zip (ds.map .sh))
  | [], [], k, _ => by
    induction k with
    | zero => exact .nil
    | succ k ih => exact .no ih
  | v :: vs, d :: ds, k, l => .yes (slots_start k (by simpa using l))
theorem own_args {K : PySem.W.Frag} {Hf : Hg} : ∀ {vs : List V} {ds : List PyData}, RpAll K Hf vs ds → OwnI K Hf (vs.zip (ds.map .sh)) []
  | _, _, .nil => .nil
  | _, _, .cons h r => OwnI.cons (b1 := []) (b2 := []) (.sh h) (own_args r)
theorem SX.addAll {K : PySem.W.Frag} {Hf : Hg} {H : Hp} {F : Fr} {vs : List V} {ds : List PyData} (s : SX K Hf [] F H) (r : RpAll K Hf vs ds) : SX K Hf (vs.zip (ds.map .sh)) F H := by
  obtain ⟨⟨bs, h, n, a⟩, e, mm⟩ := s
  cases h
  exact ⟨⟨[], own_args r, n, a⟩, e, mm⟩
theorem post_out {X : Cx} {Hf : Hg} {F : Bs} {r : Out} {Q : VK} {E : XK} {D : Ends} (h : PostP X.K X.mg Hf F (outRv r) Q E) (hn : ∀ σ H, Q .non H → D.nx σ H := by exact fun _ _ h => h) (hr : ∀ v H, Q v H → D.rt v H := by exact fun _ _ h => h) : PostS X (fun cls d _ H => E cls d H) Hf F r D := by
  unfold outRv at h
  cases r with
  | next ρ' =>
    exact fun σ' H' Hf' sm s' => by
      obtain ⟨its, sb, hs, t, s2⟩ := s'.ex
      have s3 : SX X.K Hf' [] (fr (sb ++ F) Hf'.m) H' := SX.tail (A := its) (B := []) (show SX X.K Hf' (its ++ []) _ H' by rw [List.append_nil]; exact s2)
      exact hn _ _ (h .non H' Hf' sb sm t (s3.add .non))
  | ret o ρ' =>
    exact fun v σ' H' Hf' sm s' => by
      obtain ⟨its, sb, hs, t, s2⟩ := s'.ex
      exact hr _ _ (h v H' Hf' sb sm t (SX.head (A := [(v, o)]) s2))
  | brk ρ' => exact h.elim
  | cnt ρ' => exact h.elim
  | exc e ρ' =>
    exact fun σ' H' Hf' cls d sm s' x => by
      obtain ⟨its, sb, hs, t, s2⟩ := s'.ex
      exact h H' Hf' cls d sb sm t (SX.tail (A := its) (B := []) (show SX X.K Hf' (its ++ []) _ H' by rw [List.append_nil]; exact s2)) x
  | stk => exact h.elim
section
variable {P : Program} {w : World} {K : PySem.W.Frag} {mg : Str → Option Value} {base : Heap}
end
abbrev DK := Sum Key (List Key)
def asKey : PyData → Option Key
  | .int i => some (.inl i)
  | .str x => some (.inr x)
  | _ => none
def asKeys : List PyData → Option (List Key)
  | [] => some []
  | d :: ds => match asKey d, asKeys ds with
    | some k, some ks => some (k :: ks)
    | _, _ => none
def asDK : PyData → Option DK
  | .int i => some (.inl (.inl i))
  | .str x => some (.inl (.inr x))
  | .tuple ds => (asKeys ds).map .inr
  | _ => none
def fineK : DK → Bool
  | .inl _ => true
  | .inr ks => (ks.any fun k => match k with
    | .inl _ => true
    | .inr _ => false) && decide (ks.length ≠ 3)
theorem asKey_kD (k : Key) : asKey (kD k) = some k := by cases k <;> rfl
theorem asKeys_kD : ∀ ks : List Key, asKeys (ks.map kD) = some ks
  | [] => rfl
  | k :: ks => by rw [List.map_cons, asKeys, asKey_kD, asKeys_kD ks]
theorem asKey_inv {d : PyData} {k : Key} (h : asKey d = some k) : d = kD k := by
  cases d <;> simp [asKey] at h <;> subst h <;> rfl
theorem asKeys_inv : ∀ {ds : List PyData} {ks : List Key}, asKeys ds = some ks → ds = ks.map kD
  | [], ks, h => by simp [asKeys] at h; subst h; rfl
  | d :: ds, ks, h => by
    rw [asKeys] at h
    split at h
    · rename_i k ks' h1 h2
      cases h
      rw [List.map_cons, ← asKey_inv h1, ← asKeys_inv h2]
    · cases h
theorem asDK_kD (k : Key) : asDK (kD k) = some (.inl k) := by cases k <;> rfl
theorem asDK_ktD (ks : List Key) : asDK (ktD ks) = some (.inr ks) := by simp [asDK, ktD, asKeys_kD]
theorem asDK_inl {d : PyData} {k : Key} (h : asDK d = some (.inl k)) : d = kD k := by
  cases d <;> simp [asDK] at h <;> subst h <;> rfl
theorem asDK_inr {d : PyData} {ks : List Key} (h : asDK d = some (.inr ks)) : d = ktD ks := by
  cases d with
  | tuple ds =>
    simp only [asDK, Option.map_eq_some_iff] at h
    obtain ⟨ks', h1, h2⟩ := h
    cases h2
    rw [asKeys_inv h1]; rfl
  | _ => simp [asDK] at h
def dLook (kvs : List (PyData × PyData)) (k : PyData) : Option PyData := match asDK k with
  | some q => (kvs.find? fun p => decide (asDK p.1 = some q)).map (·.2)
  | none => none
def okK (kvs : List (PyData × PyData)) (k : PyData) : Bool := match asDK k with
  | some (.inl _) => isK kvs
  | some (.inr ks) => isT kvs && fineK (.inr ks)
  | none => false
section
variable {K : PySem.W.Frag} {H : Hg}
theorem rp_key {y : V} {k : Key} (h : Rp K H y (kD k)) : y = kV k := by
  cases k with
  | inl i => exact rp_int h
  | inr x => exact rp_str h
theorem rpAll_keys : ∀ {ys : List V} {ks : List Key}, RpAll K H ys (ks.map kD) → ys = ks.map kV
  | _, [], .nil => rfl
  | _, k :: ks, .cons h r => by rw [rp_key h, rpAll_keys r]; rfl
theorem rp_keyT {y : V} {ks : List Key} (h : Rp K H y (ktD ks)) (hf : fineK (.inr ks) = true) : ∃ b, y = .ref b ∧ H.h b = some (.tup (ks.map kV)) := by
  generalize hd : ktD ks = d at h
  cases h with
  | tup h r =>
    cases hd
    exact ⟨_, rfl, by rw [← rpAll_keys r]; exact h⟩
  | tup3 _ h l r =>
    cases hd
    exfalso
    rw [List.length_map] at l
    rw [fineK, l] at hf
    simp at hf
  | tupK h n =>
    rename_i xs
    exfalso
    have e : ks.map kD = xs.map PyData.str := by injection hd
    have : ∀ (ks : List Key) (xs : List Str), ks.map kD = xs.map PyData.str → (ks.any fun k => match k with | .inl _ => true | .inr _ => false) = false := by
      intro ks
      induction ks with
      | nil => intro _ _; rfl
      | cons k ks ih =>
        intro xs e
        cases xs with
        | nil => cases e
        | cons x xs =>
          injection e with e1 e2
          cases k with
          | inl i => cases e1
          | inr z => simp only [List.any_cons, Bool.false_or]; exact ih xs e2
    rw [fineK, this ks xs e] at hf
    cases hf
  | non => cases hd
  | bl => cases hd
  | int => cases hd
  | str => cases hd
  | lst => cases hd
  | dk => cases hd
  | dt => cases hd
  | hd => cases hd
theorem find_zip {κ : Type} [DecidableEq κ] {key : κ → PyData} {q : κ → DK} (hq : ∀ k, asDK (key k) = some (q k)) (inj : ∀ a b, q a = q b → a = b) : ∀ {kvs : List (κ × V)} {ds : List PyData} {k : κ}, RpAll K H (kvs.map (·.2)) ds →
    (∀ d, (((kvs.map fun p => key p.1).zip ds).find? fun p => decide (asDK p.1 = some (q k))).map (·.2) = some d → ∃ v, valV kvs k = some v ∧ Rp K H v d) ∧ ((((kvs.map fun p => key p.1).zip ds).find? fun p => decide (asDK p.1 = some (q k))).map (·.2)).isSome = (valV kvs k).isSome
  | [], _, k, r => ⟨fun d h => by simp at h, by simp [valV]⟩
  | (k', v) :: kvs, d :: ds, k, .cons h r => by
    obtain ⟨ih1, ih2⟩ := find_zip hq inj (kvs := kvs) (ds := ds) (k := k) r
    simp only [List.map_cons, List.zip_cons_cons, List.find?_cons, hq]
    by_cases e : k' = k
    · subst e
      simp only [decide_true, Option.map_some]
      refine ⟨fun d' h' => ?_, ?_⟩
      · cases h'
        exact ⟨v, valV_pos (p := (k', v)) rfl, h⟩
      · rw [valV_pos (p := (k', v)) rfl]; rfl
    · have ne : ¬ some (q k') = some (q k) := fun z => e (inj _ _ (Option.some.inj z))
      simp only [decide_eq_false ne]
      rw [valV_neg (p := (k', v)) (by exact e)]
      exact ⟨ih1, ih2⟩
theorem rp_dget {x y : V} {kvs : List (PyData × PyData)} {k : PyData} (hx : Rp K H x (.dict kvs)) (hy : Rp K H y k) (ok : okK kvs k = true) : ∃ a o, x = .ref a ∧ DGet H.h a y o ∧ o.isSome = (dLook kvs k).isSome ∧ ∀ d, dLook kvs k = some d → ∃ v, o = some v ∧ Rp K H v d := by
  unfold okK at ok
  unfold dLook
  cases q : asDK k with
  | none => rw [q] at ok; cases ok
  | some dk =>
    rw [q] at ok
    generalize hd : PyData.dict kvs = dd at hx
    cases hx with
    | dk hr r =>
      rename_i a kv ds
      cases hd
      cases dk with
      | inl key =>
        have e := asDK_inl q
        subst e
        have ey := rp_key hy
        subst ey
        obtain ⟨f1, f2⟩ := find_zip (key := kD) (q := .inl) asDK_kD (fun a b z => Sum.inl.inj z) (k := key) r
        exact ⟨_, _, rfl, .inl ⟨_, key, hr, rfl, rfl⟩, f2.symm, fun d hd => by
          obtain ⟨v, h1, h2⟩ := f1 d hd
          exact ⟨v, h1, h2⟩⟩
      | inr ks =>
        exfalso
        have ok : (isT _ && fineK (.inr ks)) = true := ok
        rw [Bool.and_eq_true] at ok
        have h1 := ok.1
        cases kv with
        | nil => cases h1
        | cons p kv =>
          cases ds with
          | nil => cases r
          | cons d ds =>
            obtain ⟨k', v⟩ := p
            cases k' <;> cases h1
    | hd h =>
      cases hd
      cases dk with
      | inl key => cases ok
      | inr ks => cases ok
    | dt hr r =>
      rename_i a kv ds
      cases hd
      cases dk with
      | inl key => cases ok
      | inr ks =>
        have ok : (isT _ && fineK (.inr ks)) = true := ok
        rw [Bool.and_eq_true] at ok
        have e := asDK_inr q
        subst e
        obtain ⟨b, rfl, hb⟩ := rp_keyT hy ok.2
        obtain ⟨f1, f2⟩ := find_zip (key := ktD) (q := .inr) asDK_ktD (fun a b z => Sum.inr.inj z) (k := ks) r
        have skip : ∀ l : List (PyData × PyData), (((PyData.none, PyData.none) :: l).find? fun p => decide (asDK p.1 = some (.inr ks))) = l.find? fun p => decide (asDK p.1 = some (.inr ks)) := fun l => by
          rw [List.find?_cons]
          have : decide (asDK PyData.none = some (Sum.inr ks)) = false := by simp [asDK]
          simp only [this]
        simp only [skip]
        exact ⟨_, _, rfl, .inr ⟨_, ks, b, hr, rfl, hb, rfl⟩, f2.symm, fun d hd => by
          obtain ⟨v, h1, h2⟩ := f1 d hd
          exact ⟨v, h1, h2⟩⟩
    | non => cases hd
    | bl => cases hd
    | int => cases hd
    | str => cases hd
    | lst => cases hd
    | tup => cases hd
    | tup3 => cases hd
    | tupK => cases hd
end
def rIxD : R2 := fun x y H Q => ∃ a v, x = .ref a ∧ DGet H a y (some v) ∧ Q v H
theorem ix_dict (hu : X.A.units + 1 < cLine) : IxR X rIxD := by
  intro value slice pins s σ H x y v u Q I rx ry h hs
  obtain ⟨a, z, rfl, g, q⟩ := h
  cases rx
  exact tail_any (dict_typeIs I g) PySem.F.slot_dict_getitem.lookup (d_getItem hu I g ry fun w' s3 I3 rw' => ⟨z, H, I3, rw', q⟩) hs
def gSub (a b : OV) : Option OV := match fz a, fz b with
  | .list ds, .int i => (atI ds i).map .sh
  | .tuple ds, .int i => (atI ds i).map .sh
  | .str z, .int i => if z.length ≤ sizeLine then (atI z.cps.toList i).map fun c => .sh (.str ⟨#[c]⟩) else none
  | .dict kvs, k => if okK kvs k = true then (dLook kvs k).map .sh else none
  | _, _ => none
theorem rpAll_at {K : PySem.W.Frag} {H : Hg} {vs : List V} {ds : List PyData} {i : Int} {d : PyData} (r : RpAll K H vs ds) (h : atI ds i = some d) : ∃ v, atI vs i = some v ∧ Rp K H v d := by
  unfold atI at h ⊢
  rw [r.len]
  cases q : ixN ds.length i with
  | none => rw [q] at h; cases h
  | some j =>
    rw [q] at h
    exact r.get h
abbrev rSub (K : PySem.W.Frag) : R2 := fun x y H Q => rIx K x y H Q ∨ rIxD x y H Q
theorem op2_sub {K : PySem.W.Frag} : Op2 K (rSub K) gSub := by
  intro Hf its F H x y a b c Q s h q
  obtain ⟨Hf', sm, s'⟩ := s.freeze2
  have q' : ∀ v H' Hf2, Same Hf' Hf2 → SX K Hf2 ((v, c) :: its) F H' → Q v H' := fun v H' Hf2 z => q v H' Hf2 (sm.trans z)
  unfold gSub at h
  generalize fz a = da at *
  generalize fz b = db at *
  have ry := s'.rp
  have rx := s'.drop.rp
  have s2 := s'.drop.drop
  split at h
  · obtain ⟨d, hd, rfl⟩ := Option.map_eq_some_iff.mp h
    obtain ⟨p1, xs, rfl, t1, r1⟩ := rx.sqL
    have e2 := rp_int ry
    subst e2
    obtain ⟨v, hv, rv⟩ := rpAll_at r1 hd
    exact .inl (.inl ⟨p1, xs, _, v, rfl, rfl, s'.sub.sqL t1, hv, q' _ _ _ (Same.refl _) (s2.add rv)⟩)
  · obtain ⟨d, hd, rfl⟩ := Option.map_eq_some_iff.mp h
    obtain ⟨p1, xs, rfl, t1, r1⟩ := rx.sqT
    have e2 := rp_int ry
    subst e2
    obtain ⟨v, hv, rv⟩ := rpAll_at r1 hd
    exact .inl (.inr (.inl ⟨p1, xs, _, v, rfl, rfl, s'.sub.sqT t1, hv, q' _ _ _ (Same.refl _) (s2.add rv)⟩))
  · split at h
    · rename_i hz
      obtain ⟨d, hd, rfl⟩ := Option.map_eq_some_iff.mp h
      have e1 := rp_str rx
      have e2 := rp_int ry
      subst e1 e2
      exact .inl (.inr (.inr ⟨_, _, d, rfl, rfl, hz, hd, q' _ _ _ (Same.refl _) (s2.add (.str _))⟩))
    · cases h
  · split at h
    · rename_i ok
      obtain ⟨d, hd, rfl⟩ := Option.map_eq_some_iff.mp h
      obtain ⟨ad, o, rfl, hg, _, f⟩ := rp_dget (rx.mono s'.sub) (ry.mono s'.sub) ok
      obtain ⟨ad', o', e', hg', _, f'⟩ := rp_dget rx ry ok
      obtain ⟨v, rfl, rv⟩ := f' d hd
      cases e'
      refine .inr ⟨ad, v, rfl, ?_, q' _ _ _ (Same.refl _) (s2.add rv)⟩
      rcases hg' with ⟨kvs, k, e, ey, l⟩ | ⟨kvs, k, b, e, ey, eb, l⟩
      · exact .inl ⟨kvs, k, s'.sub.rd e, ey, l⟩
      · exact .inr ⟨kvs, k, b, s'.sub.rd e, ey, s'.sub.tup eb, l⟩
    · cases h
  · cases h
theorem ev_sub_ix (G : Good X W n) (ha : EvE X W a fa) (hb : EvE X W b fb) (hs : PlainIx b := by intro _ _; rfl) : EvE X W (.Subscript a b pos) (eBin gSub fa fb) := ev_top op2_sub (pe_ix (ix_seq.or (ix_dict (by have := G.hu; omega))) ha hb hs)
end
section
variable {X : Cx} {W : WX} {e a b c : Expr} {es rest : List Expr} {f fa fb fc : Rho → Re} {ta tb : Rho → ReB} {fl : Rho → ReL} {p pos : Pos} {n m k : Nat} {x : Str}
def flatD : PyData → Bool
  | .none => true | .bool _ => true | .int _ => true | .str _ => true | _ => false
theorem flat_rp {K : PySem.W.Frag} {H : Hg} {v : V} {d : PyData} (r : Rp K H v d) (h : flatD d = true) : flatV v = true := by
  cases r <;> first | rfl | (exact absurd (show false = true from h) Bool.false_ne_true)
theorem flat_eq {K : PySem.W.Frag} {H : Hg} {v w : V} {d e : PyData} (r : Rp K H v d) (q : Rp K H w e) (h : flatD d = true) (h' : flatD e = true) : eqV v w = PyData.eqv d e := by
  cases r <;> first
    | (exact absurd (show false = true from h) Bool.false_ne_true)
    | (cases q <;> first
        | (exact absurd (show false = true from h') Bool.false_ne_true)
        | (simp only [eqV, PyData.eqv]; done)
        | rfl)
theorem flat_all {K : PySem.W.Frag} {H : Hg} {v : V} {d : PyData} (r : Rp K H v d) (h : flatD d = true) : ∀ {vs : List V} {ds : List PyData}, RpAll K H vs ds → ds.all flatD = true → vs.all flatV = true ∧ inV v vs = ds.any fun z => PyData.eqv z d
  | _, _, .nil, _ => ⟨rfl, rfl⟩
  | _, _, .cons q t, hd => by
    rw [List.all_cons, Bool.and_eq_true] at hd
    obtain ⟨h1, h2⟩ := flat_all r h t hd.2
    refine ⟨by rw [List.all_cons, flat_rp q hd.1, h1]; rfl, ?_⟩
    unfold inV at h2 ⊢
    rw [List.any_cons, List.any_cons, flat_eq q r hd.1 h, h2]
def gIn (neg : Bool) (a b : OV) : Option OV := match fz b with
  | .list ds => if SeqAt.shaped (fz a) = true ∧ SeqAt.shaped (.list ds) = true then some (.sh (.bool (neg ^^ ds.any fun z => PyData.eqv z (fz a)))) else none
  | .tuple ds => if flatD (fz a) = true ∧ ds.all flatD = true then some (.sh (.bool (neg ^^ ds.any fun z => PyData.eqv z (fz a)))) else none
  | .dict kvs => if okK kvs (fz a) = true then some (.sh (.bool (neg ^^ (dLook kvs (fz a)).isSome))) else none
  | .str z => match fz a with
    | .str y => some (.sh (.bool (neg ^^ !(Builtin.Str.occurrences z y 0 z.length 1).isEmpty)))
    | _ => none
  | _ => none
def rInDict (neg : Bool) : R2 := fun x y H Q => ∃ a o, y = .ref a ∧ DGet H a x o ∧ Q (.bl (neg ^^ o.isSome)) H
def rInStr (neg : Bool) : R2 := fun x y H Q => ∃ i j, x = .str i ∧ y = .str j ∧ Q (.bl (neg ^^ !(Builtin.Str.occurrences j i 0 j.length 1).isEmpty)) H
def rInL (K : PySem.W.Frag) (neg : Bool) : R2 := fun x y H Q => ∃ d ds, Dp K H x d ∧ Dp K H y (.list ds) ∧ SeqAt.shaped d = true ∧ SeqAt.shaped (.list ds) = true ∧ Q (.bl (neg ^^ ds.any fun z => PyData.eqv z d)) H
abbrev rInAll (K : PySem.W.Frag) (neg : Bool) : R2 := fun x y H Q => rIn K neg x y H Q ∨ (rInL K neg x y H Q ∨ (rInDict neg x y H Q ∨ rInStr neg x y H Q))
theorem opr_in (G : Good X W n) : OpR X (compareOp .In) (rInAll X.K false) := by
  refine OpR.or op_in_seq (OpR.or (fun pins s σ H x y v u Q I rx ry ⟨d, ds, h1, h2, h3, h4, q⟩ => op_inD G.hu pins s σ H x y v u Q I rx ry ⟨d, ds, h1, h2, h3, h4, by simpa using q⟩) (OpR.or ?_ ?_))
  · intro pins s σ H x y v u Q I rx ry ⟨a, o, e, g, q⟩
    subst e
    cases ry
    exact d_in (by have := G.hu; omega) I g rx fun s' I' => ⟨.bl o.isSome, H, I', rfl, by simpa using q⟩
  · intro pins s σ H x y v u Q I rx ry ⟨i, j, e1, e2, q⟩
    exact op_in_str pins s σ H x y v u Q I rx ry ⟨i, j, e1, e2, by simpa using q⟩
theorem opr_notin (G : Good X W n) : OpR X (compareOp .NotIn) (rInAll X.K true) := by
  refine OpR.or op_notIn_seq (OpR.or (fun pins s σ H x y v u Q I rx ry ⟨d, ds, h1, h2, h3, h4, q⟩ => op_notInD G.hu pins s σ H x y v u Q I rx ry ⟨d, ds, h1, h2, h3, h4, by simpa using q⟩) (OpR.or ?_ ?_))
  · intro pins s σ H x y v u Q I rx ry ⟨a, o, e, g, q⟩
    subst e
    cases ry
    exact d_notIn (by have := G.hu; omega) I g rx fun s' I' => ⟨.bl (!o.isSome), H, I', rfl, by simpa using q⟩
  · intro pins s σ H x y v u Q I rx ry ⟨i, j, e1, e2, q⟩
    exact op_notin_str pins s σ H x y v u Q I rx ry ⟨i, j, e1, e2, by simpa using q⟩
theorem op2_in {K : PySem.W.Frag} (neg : Bool) : Op2 K (rInAll K neg) (gIn neg) := by
  intro Hf its F H x y a b c Q s h q
  have ry := s.rdH
  have rx := s.drop.rdH
  have s2 := s.drop.drop
  have fin : ∀ k, c = .sh (.bool k) → Q (.bl k) H := fun k e => by
    subst e
    exact q _ _ _ (Same.refl _) (s2.add (.bl _))
  unfold gIn at h
  generalize fz a = da at *
  generalize fz b = db at *
  split at h
  · split at h
    · rename_i hc
      cases h
      exact .inr (.inl ⟨_, _, rx.dp (SeqAt.canLay_of_shaped hc.1), ry.dp (SeqAt.canLay_of_shaped hc.2), hc.1, hc.2, fin _ rfl⟩)
    · cases h
  · split at h
    · rename_i hc
      cases h
      obtain ⟨p1, ys, rfl, t1, r1⟩ := ry.sqT
      obtain ⟨h1, h2⟩ := flat_all rx hc.1 r1 hc.2
      refine .inl ⟨p1, ys, rfl, .inr t1, flat_rp rx hc.1, h1, ?_⟩
      cases neg with
      | false => rw [if_neg Bool.false_ne_true, h2]; exact fin _ (by rw [Bool.false_xor])
      | true => rw [if_pos rfl, h2]; exact fin _ (by rw [Bool.true_xor])
    · cases h
  · split at h
    · rename_i ok
      cases h
      obtain ⟨ad, o, rfl, hg, he, _⟩ := rp_dget ry rx ok
      exact .inr (.inr (.inl ⟨ad, o, rfl, hg, by rw [he]; exact fin _ rfl⟩))
    · cases h
  · split at h
    · cases h
      have e1 := rp_str rx
      have e2 := rp_str ry
      subst e1 e2
      exact .inr (.inr (.inr ⟨_, _, rfl, rfl, fin _ rfl⟩))
    · cases h
  · cases h
theorem ec_in (G : Good X W n) (ha : EvE X W a fa) (hb : EvE X W b fb) : EvC X W .In a b (eBin (gIn false) fa fb) := ec_op (opr_in G) (op2_in false) ha hb
theorem ec_notin (G : Good X W n) (ha : EvE X W a fa) (hb : EvE X W b fb) : EvC X W .NotIn a b (eBin (gIn true) fa fb) := ec_op (opr_notin G) (op2_in true) ha hb
def OpN (K : PySem.W.Frag) (r : List V → Hp → VK → Prop) (g : List OV → Option OV) : Prop :=
  ∀ (Hf : Hg) (its : Its) (F : Fr) (H : Hp) (vs : List V) (os : List OV) (c : OV) (Q : VK), vs.length = os.length → SX K Hf (vs.zip os ++ its) F H → g os = some c →
    (∀ v H' Hf', Same Hf Hf' → SX K Hf' ((v, c) :: its) F H' → Q v H') → r vs H Q
def eFn (g : List OV → Option OV) (fl : Rho → ReL) (ρ : Rho) : Re := bindL (fl ρ) fun os ρ1 => ofO (g os) ρ1
theorem fn_post {r : List V → Hp → VK → Prop} {g : List OV → Option OV} (ho : OpN X.K r g) {σ : St} {H : Hp} {Q : VK} {Hf : Hg} {T : Its} {ρ : Rho} {F : Bs} (s : SI X.K Hf T ρ F σ H) (h : PostE X W Hf T F σ (eFn g fl ρ) Q) : tL X W fl σ H fun vs H1 => r vs H1 Q :=
  ⟨Hf, T, ρ, F, s, PostL.bind h fun os ρ1 vs H1 Hf1 l sm s1 h1 => by
    cases q : g os with
    | none => rw [q] at h1; exact h1.elim
    | some c =>
      rw [q] at h1
      obtain ⟨its, F2, s2, bk⟩ := s1.ex2
      rw [List.append_assoc] at s2
      exact ho Hf1 (T ++ its) F2 H1 vs os c Q l s2 q fun v H' Hf' sm' s' => h1 v H' Hf' sm' (bk _ _ _ sm' s')⟩
theorem ev_fnB {id : String} {r : List V → Hp → VK → Prop} {g : List OV → Option OV} (hc : CallR X (.builtin id) r) (ho : OpN X.K r g) (hg : Gl X x) (hm : X.mg x = none) (hv : bootBuiltins x = some (.builtin id)) (ha : EvL X W (e :: es) fl) (hn : x ≠ "__name__" := by decide) (hdb : (x == ("__debug__" : Str)) = false := by decide)
    (he : starEach (e :: es) X.env = (false, eval e X.env) :: starEach es X.env := by rfl) (hpl : (backTo pos (starEach es X.env)).any (·.1) = false := by rfl) : EvE X W (.Call (.Name x p) (e :: es) [] pos) (eFn g fl) :=
  pe_w (pe_callB hc hg hm hv ha hn hdb he hpl) fun σ H Q ⟨Hf, T, ρ, F, s, h⟩ => fn_post ho s h
theorem ev_fnT {id : String} {r : List V → Hp → VK → Prop} {g : List OV → Option OV} (hc : CallR X (.type id) r) (ho : OpN X.K r g) (hg : Gl X x) (hm : X.mg x = none) (hv : bootBuiltins x = some (.type id)) (ha : EvL X W (e :: es) fl) (hn : x ≠ "__name__" := by decide) (hdb : (x == ("__debug__" : Str)) = false := by decide)
    (he : starEach (e :: es) X.env = (false, eval e X.env) :: starEach es X.env := by rfl) (hpl : (backTo pos (starEach es X.env)).any (·.1) = false := by rfl) : EvE X W (.Call (.Name x p) (e :: es) [] pos) (eFn g fl) :=
  pe_w (pe_callTy hc hg hm hv ha hn hdb he hpl) fun σ H Q ⟨Hf, T, ρ, F, s, h⟩ => fn_post ho s h
theorem opN1 {K : PySem.W.Frag} {r : List V → Hp → VK → Prop} {g : PyData → Option OV} (h : ∀ Hf its F H v d c Q, SX K Hf its F H → Rp K Hf v d → g d = some c → (∀ v H' Hf', Same Hf Hf' → SX K Hf' ((v, c) :: its) F H' → Q v H') → r [v] H Q) :
    OpN K r fun os => match os with | [o] => g (fz o) | _ => none := by
  intro Hf its F H vs os c Q l s hg q
  simp only at hg
  split at hg
  · rename_i o
    match vs, l with
    | [v], _ =>
      obtain ⟨Hf', sm, s'⟩ := SX.freeze (its := its) s
      exact h Hf' its F H v (fz o) c Q s'.drop s'.rp hg fun v H' Hf2 z => q v H' Hf2 (sm.trans z)
  · cases hg
theorem opN2 {K : PySem.W.Frag} {r : List V → Hp → VK → Prop} {g : PyData → PyData → Option OV} (h : ∀ Hf its F H v w d d' c Q, SX K Hf its F H → Rp K Hf v d → Rp K Hf w d' → g d d' = some c → (∀ v H' Hf', Same Hf Hf' → SX K Hf' ((v, c) :: its) F H' → Q v H') → r [v, w] H Q) :
    OpN K r fun os => match os with | [o, o'] => g (fz o) (fz o') | _ => none := by
  intro Hf its F H vs os c Q l s hg q
  simp only at hg
  split at hg
  · rename_i o o'
    match vs, l with
    | [v, w], _ =>
      obtain ⟨Hf', sm, r, s'⟩ := SX.freezeAll (its := its) [v, w] [o, o'] Hf rfl s
      cases r with
      | cons r1 r =>
        cases r with
        | cons r2 r => exact h Hf' its F H v w (fz o) (fz o') c Q s' r1 r2 hg fun v H' Hf2 z => q v H' Hf2 (sm.trans z)
  · cases hg
abbrev g1 (g : PyData → Option OV) : List OV → Option OV := fun os => match os with | [o] => g (fz o) | _ => none
abbrev g2 (g : PyData → PyData → Option OV) : List OV → Option OV := fun os => match os with | [o, o'] => g (fz o) (fz o') | _ => none
def dLen : PyData → Option OV
  | .list ds => some (.sh (.int ds.length))
  | .tuple ds => some (.sh (.int ds.length))
  | .str z => if z.length ≤ sizeLine then some (.sh (.int z.length)) else none
  | .dict ((.none, .none) :: kvs) => some (.sh (.int kvs.length))
  | _ => none
abbrev rLen (K : PySem.W.Frag) : List V → Hp → VK → Prop := fun xs H Q => (∃ p ys, xs = [.ref p] ∧ (SqL K H p ys ∨ SqT K H p ys) ∧ Q (.int ys.length) H) ∨ ∃ z, xs = [.str z] ∧ z.length ≤ sizeLine ∧ Q (.int z.length) H
def rLenR : List V → Hp → VK → Prop := fun xs H Q => ∃ (p : Addr) (kvs : List (List Key × V)), xs = [.ref p] ∧ Rd H p (.dT kvs) ∧ Q (.int ((kvs.length : Nat) : Int)) H
theorem call_len_rd {X : Cx} : CallR X (.builtin "len") rLenR := by
  intro pins s σ H xs us Q I r h
  obtain ⟨p, kvs, rfl, hp, q⟩ := h
  obtain ⟨u, rfl, rx⟩ := vals1 r
  obtain rfl : u = .ref p := rx
  obtain ⟨z, hd, ys, rel, dd⟩ := dt_rd I.hok hp
  have hl : kvs.length = ys.length := Paired.length rel
  refine call_len_dictH hd dd (by rw [← hl]; rw [sizeLine_eq] at z; omega) ?_
  rw [← hl]
  exact ⟨.int ((kvs.length : Nat) : Int), H, I.tok _, ⟨_, rfl⟩, q⟩
theorem rp_dt {K : PySem.W.Frag} {H : Hg} {v : V} {kvs : List (PyData × PyData)} (r : Rp K H v (.dict ((.none, .none) :: kvs))) : ∃ (a : Addr) (l : List (List Key × V)), v = .ref a ∧ Rd H.h a (.dT l) ∧ l.length = kvs.length := by
  generalize hd : PyData.dict ((.none, .none) :: kvs) = d at r
  cases r with
  | @dk a l ds h1 h2 =>
    cases hd' : l with
    | nil => rw [hd'] at hd; simp at hd
    | cons p l' =>
      rw [hd'] at hd
      cases ds with
      | nil => simp at hd
      | cons d1 ds =>
        simp only [List.map_cons, List.zip_cons_cons, PyData.dict.injEq, List.cons.injEq, Prod.mk.injEq] at hd
        exact absurd hd.1.1 (by cases p.1 <;> simp [kD])
  | @dt a l ds h1 h2 =>
    have hl := h2.len
    simp only [PyData.dict.injEq, List.cons.injEq] at hd
    refine ⟨a, l, rfl, h1, ?_⟩
    rw [hd.2, List.length_zip, List.length_map]
    rw [List.length_map] at hl
    omega
  | _ => cases hd
theorem opn_len {K : PySem.W.Frag} : OpN K (fun xs H Q => rLen K xs H Q ∨ rLenR xs H Q) (g1 dLen) := opN1 fun Hf its F H v d c Q s r h q => by
  unfold dLen at h
  split at h
  · cases h
    obtain ⟨p1, ys, rfl, t1, r1⟩ := r.sqL
    exact .inl (.inl ⟨p1, ys, rfl, .inl (s.sub.sqL t1), by rw [r1.len]; exact q _ _ _ (Same.refl _) (s.add (.int _))⟩)
  · cases h
    obtain ⟨p1, ys, rfl, t1, r1⟩ := r.sqT
    exact .inl (.inl ⟨p1, ys, rfl, .inr (s.sub.sqT t1), by rw [r1.len]; exact q _ _ _ (Same.refl _) (s.add (.int _))⟩)
  · split at h
    · rename_i hz
      cases h
      have e := rp_str r
      subst e
      exact .inl (.inr ⟨_, rfl, hz, q _ _ _ (Same.refl _) (s.add (.int _))⟩)
    · cases h
  · cases h
    obtain ⟨a, l, rfl, h1, h2⟩ := rp_dt r
    exact .inr ⟨a, l, rfl, s.sub.rd h1, by rw [h2]; exact q _ _ _ (Same.refl _) (s.add (.int _))⟩
  · cases h
structure BIn (X : Cx) (x : Str) (id : String) (g : List OV → Option OV) : Prop where
  ex : ∃ r, CallR X (.builtin id) r ∧ OpN X.K r g
  nm : X.mg x = none
  bt : bootBuiltins x = some (.builtin id)
structure BTy (X : Cx) (x : Str) (id : String) (g : List OV → Option OV) : Prop where
  ex : ∃ r, CallR X (.type id) r ∧ OpN X.K r g
  nm : X.mg x = none
  bt : bootBuiltins x = some (.type id)
theorem ev_b {id : String} {g : List OV → Option OV} (B : BIn X x id g) (hg : Gl X x) (ha : EvL X W (e :: es) fl) (hn : x ≠ "__name__" := by decide) (hdb : (x == ("__debug__" : Str)) = false := by decide)
    (he : starEach (e :: es) X.env = (false, eval e X.env) :: starEach es X.env := by rfl) (hpl : (backTo pos (starEach es X.env)).any (·.1) = false := by rfl) : EvE X W (.Call (.Name x p) (e :: es) [] pos) (eFn g fl) := by
  obtain ⟨r, hc, ho⟩ := B.ex
  exact ev_fnB hc ho hg B.nm B.bt ha hn hdb he hpl
theorem ev_ty {id : String} {g : List OV → Option OV} (B : BTy X x id g) (hg : Gl X x) (ha : EvL X W (e :: es) fl) (hn : x ≠ "__name__" := by decide) (hdb : (x == ("__debug__" : Str)) = false := by decide)
    (he : starEach (e :: es) X.env = (false, eval e X.env) :: starEach es X.env := by rfl) (hpl : (backTo pos (starEach es X.env)).any (·.1) = false := by rfl) : EvE X W (.Call (.Name x p) (e :: es) [] pos) (eFn g fl) := by
  obtain ⟨r, hc, ho⟩ := B.ex
  exact ev_fnT hc ho hg B.nm B.bt ha hn hdb he hpl
theorem b_len (hm : X.mg "len" = none) : BIn X "len" "len" (g1 dLen) := ⟨⟨_, (call_len_seq.or call_len_str).or call_len_rd, opn_len⟩, hm, boot_len⟩
def dAbs : PyData → Option OV
  | .int i => some (.sh (.int (if i < 0 then -i else i)))
  | _ => none
def intsOf : List PyData → Option (List Int)
  | [] => some []
  | .int i :: ds => (intsOf ds).map (i :: ·)
  | _ => none
def boolsOf : List PyData → Option (List Bool)
  | [] => some []
  | .bool i :: ds => (boolsOf ds).map (i :: ·)
  | _ => none
theorem rp_ints {K : PySem.W.Frag} {H : Hg} : ∀ {vs : List V} {ds : List PyData} {ns : List Int}, RpAll K H vs ds → intsOf ds = some ns → vs = ns.map V.int
  | _, _, _, .nil, h => by simp [intsOf] at h; subst h; rfl
  | _, _, ns, .cons (d := d) r t, h => by
    cases d with
    | int i =>
      obtain ⟨ms, h1, rfl⟩ := Option.map_eq_some_iff.mp h
      rw [rp_int r, rp_ints t h1]; rfl
    | _ => cases h
theorem rp_bls {K : PySem.W.Frag} {H : Hg} : ∀ {vs : List V} {ds : List PyData} {ns : List Bool}, RpAll K H vs ds → boolsOf ds = some ns → vs = ns.map V.bl
  | _, _, _, .nil, h => by simp [boolsOf] at h; subst h; rfl
  | _, _, ns, .cons (d := d) r t, h => by
    cases d with
    | bool i =>
      obtain ⟨ms, h1, rfl⟩ := Option.map_eq_some_iff.mp h
      rw [rp_bl r, rp_bls t h1]; rfl
    | _ => cases h
def minI : List Int → Int
  | [] => 0
  | [x] => x
  | x :: y :: r => min x (minI (y :: r))
theorem minI_spec : ∀ {ns : List Int}, ns ≠ [] → minI ns ∈ ns ∧ ∀ y ∈ ns, minI ns ≤ y
  | [x], _ => ⟨by simp [minI], by simp [minI]⟩
  | x :: y :: r, _ => by
    obtain ⟨h1, h2⟩ := minI_spec (ns := y :: r) (by simp)
    have e : minI (x :: y :: r) = min x (minI (y :: r)) := rfl
    rw [e]
    refine ⟨?_, fun z hz => ?_⟩
    · by_cases h : x ≤ minI (y :: r)
      · rw [Int.min_eq_left h]; exact List.mem_cons_self
      · rw [Int.min_eq_right (by omega)]; exact List.mem_cons_of_mem _ h1
    · rcases List.mem_cons.mp hz with rfl | hz
      · exact Int.min_le_left _ _
      · exact Int.le_trans (Int.min_le_right _ _) (h2 z hz)
section
variable {prog : Program} {w : World} {A : Around} {E : Value → Shared → Prop} {s : Shared} {l : Addr} {its : List Value} {ns : List Int} {Q : Value → Shared → Prop}
theorem iter_intTuple {xs : Array (Int × Tok)} (hl : s.heap.IsTuple l (intItems xs))
    (h : ∀ s₂ : Shared, s₂ = { s with heap := s.heap.push { cls := .type "tuple_iterator", data := .fields #[.ref l, .int 0 0] } } →
      (s₂.heap.IsTupleIter s.heap.objs.size l 0 ∧ s₂.heap.IsTuple l (intItems xs)) → (∀ b ∈ [s.heap.objs.size, l], b < s₂.heap.objs.size) → l ≠ s.heap.objs.size → Q (.ref s.heap.objs.size) s₂) :
    wpAny (model prog w) A (pyIter (.ref l)) Q E s := by
  have hlt : l < s.heap.objs.size := by obtain ⟨_, e, _⟩ := hl; exact Heap.lt_size e
  refine wpAny_pyIter_tuple hl (h _ rfl ⟨⟨_, Heap.get?_push_size _ rfl, rfl, rfl⟩, hl.push _⟩ (fun b hb => ?_) (Nat.ne_of_lt hlt))
  show b < (s.heap.push _).objs.size
  rw [Heap.size_push]
  rcases List.mem_cons.mp hb with rfl | hb
  · exact Nat.lt_succ_self _
  · rcases List.mem_cons.mp hb with rfl | hb
    · exact Nat.lt_succ_of_lt hlt
    · cases hb
theorem keptT {o : Obj} {h' : Heap} (hk : ∀ b x, b ∉ [s.heap.objs.size] → (s.heap.push o).get? b = some x → h'.get? b = some x) : ∀ b x, s.heap.get? b = some x → h'.get? b = some x :=
  fun b x e => hk b x (fun hm => by rw [List.mem_singleton.mp hm] at e; exact Nat.lt_irrefl _ (Heap.lt_size e)) (Heap.get?_push_of_some _ e)
theorem min_rawT (hh : A.handled = none) (hl : s.heap.IsTuple l its.toArray) (hi : IntsAre its ns) (hne : 0 < ns.length)
    (h : ∀ h' tk M t', (∀ b o, s.heap.get? b = some o → h'.get? b = some o) → M ∈ ns → (∀ a, a ∈ ns → M ≤ a) → Q (.int M t') { s with heap := h', toks := tk }) : wpAny (model prog w) A (call (.builtin "min") [.ref l]) Q E s := by
  obtain ⟨xs, e⟩ := hi.allInts.items
  have hn : numsOf (intItems xs).toList = ns := by rw [← e]; exact hi.numsOf
  rw [nums_intItems] at hn
  subst hn
  rw [e] at hl
  have hsz : 0 < xs.size := by simpa using hne
  refine call_min_walk (iter_intTuple hl fun s₂ e st hfp hlI => ?_)
  subst e
  refine ⟨_, _, _, _, _, _, _, rfl, Walks.tuple (A := A.in1) hh _ l hlI (intItems xs), st, hfp, by simpa [intItems] using hsz, CmpOf.ints_lt (numAt xs) (fun _ _ => intItems_at), fun v h' tk hP hk => ?_⟩
  have hv : (intItems xs)[argBest (fun i j => decide (numAt xs i < numAt xs j)) (xs.size - 1)]? = some v := by simpa [intItems] using hP
  obtain ⟨t, rfl⟩ := intItems_at hv
  obtain ⟨h1, h2⟩ := argBest_lt (numAt xs) (xs.size - 1)
  refine h h' tk _ t (keptT hk) ?_ fun a ha => ?_
  · rw [numAt_eq]; exact PySem.getD_mem (by rw [List.length_map, Array.length_toList]; omega)
  · obtain ⟨j, hj, rfl⟩ := mem_getD ha
    rw [List.length_map, Array.length_toList] at hj
    rw [← numAt_eq]; exact h2 j (by omega)
end
def rMinT (K : PySem.W.Frag) : List V → Hp → VK → Prop := fun vs H Q => ∃ (a : Addr) (ns : List Int), vs = [V.ref a] ∧ SqT K H a (ns.map V.int) ∧ 0 < ns.length ∧ ∀ m, m ∈ ns → (∀ y, y ∈ ns → m ≤ y) → Q (.int m) H
theorem cr_minT {X : Cx} (hc : X.calm = true) : CallR X (.builtin "min") (rMinT X.K) := by
  intro pins s σ H vs us Q I r h
  obtain ⟨a, ns, rfl, hs, hne, q⟩ := h
  obtain ⟨its, rv, hl, _⟩ := I.tuple hs
  rw [Vals.ref1 r]
  exact min_rawT (I.ok.hd hc) hl rv.ints hne fun h' tk m t' hk h1 h2 => ⟨.int _, H, I.kept hk, ⟨_, rfl⟩, q m h1 h2⟩
def gMax (two : Int → Int → Int) (many : List Int → Int) (os : List OV) : Option OV := match os with
  | [o, o'] => match fz o, fz o' with
    | .int i, .int j => some (.sh (.int (two i j)))
    | _, _ => none
  | [o] => match fz o with
    | .list ds => match intsOf ds with
      | some ns => if ns.isEmpty = true then none else some (.sh (.int (many ns)))
      | none => none
    | .tuple ds => match intsOf ds with
      | some ns => if ns.isEmpty = true then none else some (.sh (.int (many ns)))
      | none => none
    | _ => none
  | _ => none
abbrev max2 (i j : Int) : Int := if j > i then j else i
abbrev min2 (i j : Int) : Int := if j < i then j else i
theorem opn_min {K : PySem.W.Frag} : OpN K (fun xs H Q => (∃ i j, xs = [V.int i, V.int j] ∧ Q (.int (if j < i then j else i)) H) ∨ rMin K xs H Q ∨ rMinT K xs H Q) (gMax min2 minI) := by
  intro Hf its F H vs os c Q l s hg q
  unfold gMax at hg
  split at hg
  · exact opN2 (r := fun xs H Q => (∃ i j, xs = [V.int i, V.int j] ∧ Q (.int (if j < i then j else i)) H) ∨ rMin K xs H Q ∨ rMinT K xs H Q) (g := fun d d' => match d, d' with | .int i, .int j => some (.sh (.int (min2 i j))) | _, _ => none)
      (fun Hf its F H v w d d' c Q s r r' h q => by
        split at h
        · cases h
          have e := rp_int r
          have e' := rp_int r'
          subst e e'
          exact .inl ⟨_, _, rfl, q _ _ _ (Same.refl _) (s.add (.int _))⟩
        · cases h) Hf its F H vs _ c Q l s hg q
  · rename_i o
    match vs, l with
    | [v], _ =>
      obtain ⟨Hf', sm, s'⟩ := SX.freeze (its := its) s
      split at hg
      · split at hg
        · rename_i e1 _ _ e2
          split at hg
          · cases hg
          · rename_i hne
            cases hg
            rw [e1] at s'
            obtain ⟨p1, ys, rfl, t1, r1⟩ := s'.rp.sqL
            have ey := rp_ints r1 e2
            subst ey
            rename_i ns _
            have hne' : ns ≠ [] := fun z => hne (by rw [z]; rfl)
            refine .inr (.inl ⟨p1, ns, rfl, s'.sub.sqL t1, by cases ns with | nil => exact absurd rfl hne' | cons _ _ => simp, fun m hm hle => ?_⟩)
            obtain ⟨g1, g2⟩ := minI_spec hne'
            have e : m = minI ns := Int.le_antisymm (hle _ g1) (g2 m hm)
            rw [e]
            exact q _ _ _ sm (s'.drop.add (.int _))
        · cases hg
      · split at hg
        · rename_i e1 _ _ e2
          split at hg
          · cases hg
          · rename_i hne
            cases hg
            rw [e1] at s'
            obtain ⟨p1, ys, rfl, t1, r1⟩ := s'.rp.sqT
            have ey := rp_ints r1 e2
            subst ey
            rename_i ns _
            have hne' : ns ≠ [] := fun z => hne (by rw [z]; rfl)
            refine .inr (.inr ⟨p1, ns, rfl, s'.sub.sqT t1, by cases ns with | nil => exact absurd rfl hne' | cons _ _ => simp, fun m hm hle => ?_⟩)
            obtain ⟨g1, g2⟩ := minI_spec hne'
            have e : m = minI ns := Int.le_antisymm (hle _ g1) (g2 m hm)
            rw [e]
            exact q _ _ _ sm (s'.drop.add (.int _))
        · cases hg
      · cases hg
  · cases hg
theorem b_min (hc : X.calm = true) (hm : X.mg "min" = none) : BIn X "min" "min" (gMax min2 minI) := ⟨⟨_, (call_min2 hc).or ((cr_min hc).or (cr_minT hc)), opn_min⟩, hm, by decide +kernel⟩
def dSum : PyData → Option OV
  | .list ds => (intsOf ds).map fun ns => .sh (.int ns.sum)
  | .tuple ds => (intsOf ds).map fun ns => .sh (.int ns.sum)
  | _ => none
def dAll (f : List Bool → Bool) : PyData → Option OV
  | .list ds => (boolsOf ds).map fun ns => .sh (.bool (f ns))
  | _ => none
theorem b_any (hc : X.calm = true) (hm : X.mg "any" = none) : BIn X "any" "any" (g1 (dAll fun bs => bs.any id)) := ⟨⟨_, cr_any hc, opN1 fun Hf its F H v d c Q s r h q => by
  unfold dAll at h
  split at h
  · obtain ⟨ns, h1, rfl⟩ := Option.map_eq_some_iff.mp h
    obtain ⟨p1, ys, rfl, t1, r1⟩ := r.sqL
    have ey := rp_bls r1 h1
    subst ey
    exact ⟨p1, ns, rfl, s.sub.sqL t1, q _ _ _ (Same.refl _) (s.add (.bl _))⟩
  · cases h⟩, hm, by decide +kernel⟩
def dInt : PyData → Option OV
  | .int i => some (.sh (.int i))
  | .bool b => some (.sh (.int (if b then 1 else 0)))
  | _ => none
theorem b_int (hm : X.mg "int" = none) : BTy X "int" "int" (g1 dInt) := ⟨⟨_, call_int1, opN1 fun Hf its F H v d c Q s r h q => by
  unfold dInt at h
  split at h
  · cases h
    have e := rp_int r
    subst e
    exact .inl ⟨_, rfl, q _ _ _ (Same.refl _) (s.add (.int _))⟩
  · cases h
    have e := rp_bl r
    subst e
    exact .inr ⟨_, rfl, q _ _ _ (Same.refl _) (s.add (.int _))⟩
  · cases h⟩, hm, by decide +kernel⟩
def dList : PyData → Option OV
  | .list ds => some (.lst (ds.map .sh))
  | .tuple ds => some (.lst (ds.map .sh))
  | _ => none
theorem b_list (hm : X.mg "list" = none) : BTy X "list" "list" (g1 dList) := ⟨⟨_, call_list_of, opN1 fun Hf its F H v d c Q s r h q => by
  unfold dList at h
  split at h
  · cases h
    obtain ⟨p1, ys, rfl, t1, r1⟩ := r.sqL
    exact ⟨p1, ys, rfl, .inl (s.sub.sqL t1), fun l hl => q _ _ _ (Same.refl _) (s.mkLst r1 hl)⟩
  · cases h
    obtain ⟨p1, ys, rfl, t1, r1⟩ := r.sqT
    exact ⟨p1, ys, rfl, .inr (s.sub.sqT t1), fun l hl => q _ _ _ (Same.refl _) (s.mkLst r1 hl)⟩
  · cases h⟩, hm, by decide +kernel⟩
def tyN : PyData → String
  | .none => "NoneType" | .bool _ => "bool" | .int _ => "int" | .str _ => "str" | .list _ => "list" | .tuple _ => "tuple" | .dict _ => "dict"
def isiB (T : String) : PyData → Bool
  | .none => false
  | .bool _ => T == "int" || T == "bool"
  | .int _ => T == "int"
  | .str _ => T == "str"
  | .list _ => T == "list"
  | .tuple _ => T == "tuple"
  | .dict _ => T == "dict"
def isDict : PyData → Bool
  | .dict _ => true
  | _ => false
theorem rp_ty {K : PySem.W.Frag} {H : Hg} {v : V} {d : PyData} (r : Rp K H v d) (h : isDict d = false) : TyX K H.h v (.type (tyN d)) := by
  cases r with
  | non => exact .base .non
  | bl b => exact .base (.bl b)
  | int i => exact .base (.int i)
  | str x => exact .base (.str x)
  | lst hr _ =>
    rcases hr with (hr | ⟨o, hr⟩) | ⟨o, its, k, hr, hc, _⟩
    · exact .base (.lst hr)
    · exact .base (.frz hr)
    · exact .kList hr hc
  | tup hr _ => exact .base (.tup hr)
  | tup3 _ hr _ _ => exact .fTuple hr
  | tupK hr _ =>
    rcases hr with (hr | ⟨o, hr⟩) | ⟨o, its, k, hr, hc, _⟩
    · exact .base (.tup hr)
    · exact .fTuple hr
    · exact .kTuple hr hc
  | dk _ _ => cases h
  | dt _ _ => cases h
  | hd _ => cases h
theorem kit_isi {K : PySem.W.Frag} {T : String} (hT : T = "int" ∨ T = "bool" ∨ T = "str" ∨ T = "list" ∨ T = "tuple") (d : PyData) (h : isDict d = false) : PySem.W.kitOne K (.type (tyN d)) (.type T) = some (isiB T d) := by
  cases d with
  | dict _ => cases h
  | _ => rcases hT with rfl | rfl | rfl | rfl | rfl <;> (simp only [tyN, isiB]; exact kit_ty (by decide +kernel))
def gIsi (T : String) (os : List OV) : Option OV := match os with
  | [o] => if isDict (fz o) = true then none else some (.sh (.bool (isiB T (fz o))))
  | _ => none
theorem ev_isi {T : String} {tn : Expr} (hg : Gl X "isinstance") (hm : X.mg "isinstance" = none) (hT : T = "int" ∨ T = "bool" ∨ T = "str" ∨ T = "list" ∨ T = "tuple") (ht : PE X tn (tC (.ty T))) (ha : EvE X W a fa)
    (he : starEach [a, tn] X.env = (false, eval a X.env) :: starEach [tn] X.env := by rfl) (hpl : (backTo pos (starEach [tn] X.env)).any (·.1) = false := by rfl) (he2 : starEach [tn] X.env = (false, eval tn X.env) :: starEach [] X.env := by rfl) : EvE X W (.Call (.Name "isinstance" p) [a, tn] [] pos) (eFn (gIsi T) (lCons fa lNil)) := by
  refine pe_w (pe_callB call_isi hg hm (by decide +kernel) (pa_cons ha (pa_cons ht pa_nil he2) he) (by decide) (by decide) he hpl) fun σ H Q ⟨Hf, T', ρ, F, s, h⟩ => ?_
  unfold eFn lCons at h
  refine ⟨Hf, T', ρ, F, s, ?_⟩
  cases q : fa ρ with
  | exc e ρ1 => rw [q] at h; exact h
  | stk => rw [q] at h; exact h
  | ok o ρ1 =>
    simp only [q, bindEL, lNil, bindLL, bindL, gIsi] at h
    intro v H1 Hf1 sm s1
    by_cases hd : isDict (fz o) = true
    · rw [if_pos hd] at h; exact h.elim
    · rw [if_neg hd] at h
      have hd' : isDict (fz o) = false := by simpa using hd
      have r := s1.rdH
      refine ⟨v, .ty T, _, _, isiB T (fz o), rfl, .ty T, rp_ty r hd', kit_isi hT _ hd', ?_⟩
      exact h _ H1 Hf1 sm (s1.drop.add (.bl _))
end
theorem SI.put' {K : PySem.W.Frag} {Hf : Hg} {H : Hp} {T : Its} {F : Bs} {v : V} {o : OV} {ρ : Rho} {σ : St} (i : Nat) (s : SI K Hf ((v, o) :: T) ρ F σ H) : SI K Hf T (ρ.set i (some o)) F (σ.set i (some v)) H := by
  by_cases hi : i < ρ.length
  · exact s.put hi
  · have h1 : ρ.set i (some o) = ρ := by
      obtain ⟨sl, st⟩ := ρ
      show Rho.mk (sl.set i (some o)) st = _
      rw [List.set_eq_of_length_le (Nat.le_of_not_lt hi)]
    have h2 : σ.set i (some v) = σ := List.set_eq_of_length_le (by have := s.len; have hi : ¬ i < ρ.sl.length := hi; have : σ.length = ρ.sl.length := this; omega)
    rw [h1, h2]
    exact s.drop
section
variable {X : Cx} {W : WX} {e a b c : Expr} {es rest : List Expr} {sts body els : List Stmt} {st : Stmt} {f fa fb fc : Rho → Re} {ta tb : Rho → ReB} {fl : Rho → ReL} {g g1 g2 : Rho → Out} {p pos : Pos} {n m k : Nat} {x : Str}
def sNil (ρ : Rho) : Out := .next ρ
def sCons (g1 g2 : Rho → Out) (ρ : Rho) : Out := match g1 ρ with
  | .next ρ' => g2 ρ'
  | .ret o ρ' => .ret o ρ'
  | .brk ρ' => .brk ρ'
  | .cnt ρ' => .cnt ρ'
  | .exc e ρ' => .exc e ρ'
  | .stk => .stk
theorem eb_nil : EvB X W [] sNil := pss_w pss_nil fun D σ H ⟨Hf, ρ, F, s, h⟩ => h σ H Hf (Same.refl _) s
theorem eb_cons (h1 : EvS X W st g1) (h2 : EvB X W sts g2) : EvB X W (st :: sts) (sCons g1 g2) := pss_w (pss_cons h1 h2) fun D σ H ⟨Hf, ρ, F, s, h⟩ => by
  refine ⟨Hf, ρ, F, s, ?_⟩
  unfold sCons at h
  cases q : g1 ρ with
  | next ρ' => rw [q] at h; exact fun σ' H' Hf' sm s' => ⟨Hf', ρ', F, s', PostS.mono sm h⟩
  | ret o ρ' => rw [q] at h; exact h
  | brk ρ' => rw [q] at h; exact h
  | cnt ρ' => rw [q] at h; exact h
  | exc e ρ' => rw [q] at h; exact h
  | stk => rw [q] at h; exact h
def sRet (f : Rho → Re) (ρ : Rho) : Out := bindS (f ρ) fun o ρ1 => .ret o ρ1
theorem es_ret (he : EvE X W e f) : EvS X W (.Return (some e) pos) (sRet f) := ps_w (ps_ret he) fun D σ H ⟨Hf, ρ, F, s, h⟩ =>
  ⟨Hf, [], ρ, F, s, PostE.bindS h fun o ρ1 v H1 Hf1 sm s1 h1 => h1 v σ H1 Hf1 (Same.refl _) s1⟩
def sExpr (f : Rho → Re) (ρ : Rho) : Out := bindS (f ρ) fun _ ρ1 => .next ρ1
theorem es_expr (he : EvE X W e f) (hs : swapsWith e none pos.line X.env = pure false := by rfl) : EvS X W (.Expr e pos) (sExpr f) := ps_w (ps_expr he hs) fun D σ H ⟨Hf, ρ, F, s, h⟩ =>
  ⟨Hf, [], ρ, F, s, PostE.bindS h fun o ρ1 v H1 Hf1 sm s1 h1 => h1 σ H1 Hf1 (Same.refl _) s1.drop⟩
def sIf (tc : Rho → ReB) (g1 g2 : Rho → Out) (ρ : Rho) : Out := bindBS (tc ρ) fun b ρ1 => if b = true then g1 ρ1 else g2 ρ1
theorem es_if {tc : Rho → ReB} (hc : EvT X W c tc) (h1 : EvB X W body g1) (h2 : EvB X W els g2) : EvS X W (.If c body els pos) (sIf tc g1 g2) := ps_w (ps_if hc h1 h2) fun D σ H ⟨Hf, ρ, F, s, h⟩ =>
  ⟨Hf, [], ρ, F, s, PostB.bindBS h fun b ρ1 H1 Hf1 sm s1 h1 => by
    cases b with
    | true => rw [if_pos rfl]; exact ⟨Hf1, ρ1, F, s1, h1⟩
    | false => rw [if_neg Bool.false_ne_true]; exact ⟨Hf1, ρ1, F, s1, h1⟩⟩
def sSet (i : Nat) (f : Rho → Re) (ρ : Rho) : Out := bindS (f ρ) fun o ρ1 => .next (ρ1.set i (some o))
theorem es_set {i : Nat} {pos' : Pos} (hN : X.N.Nodup) (hi : X.N[i]? = some x) (hx : Loc X.env.scope x) (he : EvE X W e f) (hs : swapsWith e (some (.Name x pos')) pos.line X.env = pure false := by rfl) (hf : X.fn x = true ∨ X.env.scope.names.lookup x = some .local := by first | exact .inl rfl | exact .inr rfl | assumption) :
    EvS X W (.Assign [.Name x pos'] e pos) (sSet i f) := ps_w (ps_set hN hi hx he hs hf) fun D σ H ⟨Hf, ρ, F, s, h⟩ =>
  ⟨Hf, [], ρ, F, s, PostE.bindS h fun o ρ1 v H1 Hf1 sm s1 h1 => h1 _ H1 Hf1 (Same.refl _) (s1.put' i)⟩
theorem wipe_get (σ : St) (j : Nat) : ∀ is : List Nat, (wipe σ is)[j]? = if j ∈ is ∧ j < σ.length then some none else σ[j]?
  | [] => by simp [wipe]
  | i :: is => by
    unfold wipe
    by_cases e : i = j
    · subst e
      by_cases hl : i < σ.length
      · rw [List.getElem?_set_self (by rw [wipe_length]; exact hl), if_pos ⟨List.mem_cons_self, hl⟩]
      · rw [List.getElem?_eq_none (by rw [List.length_set, wipe_length]; omega), if_neg (fun z => hl z.2), List.getElem?_eq_none (by omega)]
    · rw [List.getElem?_set_ne e, wipe_get σ j is]
      have h2 : ¬ j = i := fun q => e q.symm
      simp [List.mem_cons, h2]
theorem wipe_set {σ : St} {i : Nat} {y : Option V} {is : List Nat} (h : i ∈ is) : wipe (σ.set i y) is = wipe σ is := by
  apply List.ext_getElem?
  intro j
  rw [wipe_get, wipe_get, List.length_set]
  by_cases hj : j ∈ is ∧ j < σ.length
  · rw [if_pos hj, if_pos hj]
  · rw [if_neg hj, if_neg hj]
    by_cases e : i = j
    · subst e
      have hl : σ.length ≤ i := Nat.le_of_not_lt fun z => hj ⟨h, z⟩
      rw [List.set_eq_of_length_le hl]
    · rw [List.getElem?_set_ne e]
def tG (X : Cx) (is : List Nat) (h : OV → Rho → Option Rho) : TG := fun v σ H Q => ∃ Hf T ρ F o, SI X.K Hf ((v, o) :: T) ρ F σ H ∧ (match h o ρ with
  | some ρ' => ∀ σ' H' Hf', wipe σ' is = wipe σ is → Same Hf Hf' → SI X.K Hf' T ρ' F σ' H' → Q σ' H'
  | none => False)
def EvG (X : Cx) (is : List Nat) (tg : Expr) (h : OV → Rho → Option Rho) : Prop := PG X tg (tG X is h)
theorem pg_w {X : Cx} {tg : Expr} {t t' : TG} (h : PG X tg t) (hw : ∀ v σ H Q, t' v σ H Q → t v σ H Q) : PG X tg t' := ⟨fun pins s σ H v u Q I r h' => h.run pins s σ H v u Q I r (hw v σ H Q h')⟩
theorem pg_or {X : Cx} {tg : Expr} {t t' : TG} (h : PG X tg t) (h' : PG X tg t') : PG X tg (fun v σ H Q => t v σ H Q ∨ t' v σ H Q) := ⟨fun pins s σ H v u Q I r q => q.elim (h.run pins s σ H v u Q I r) (h'.run pins s σ H v u Q I r)⟩
def hName (i : Nat) (o : OV) (ρ : Rho) : Option Rho := some (ρ.set i (some o))
theorem eg_name {is : List Nat} {i : Nat} (hN : X.N.Nodup) (hi : X.N[i]? = some x) (hx : Loc X.env.scope x) (hf : X.fn x = true ∨ X.env.scope.names.lookup x = some .local := by first | exact .inl rfl | exact .inr rfl | assumption) (him : i ∈ is := by decide) : EvG X is (.Name x pos) (hName i) :=
  pg_w (pg_name hN hi hx hf) fun v σ H Q ⟨Hf, T, ρ, F, o, s, h⟩ => h _ H Hf (wipe_set him) (Same.refl _) (s.put' i)
def tGs (X : Cx) (is : List Nat) (hs : List PyData → Rho → Option Rho) : TGs := fun vs σ H Q => ∃ Hf T ρ F ds, RpAll X.K Hf vs ds ∧ SI X.K Hf T ρ F σ H ∧ (match hs ds ρ with
  | some ρ' => ∀ σ' H' Hf', wipe σ' is = wipe σ is → Same Hf Hf' → SI X.K Hf' T ρ' F σ' H' → Q σ' H'
  | none => False)
def EvGs (X : Cx) (is : List Nat) (tgs : List Expr) (h : List PyData → Rho → Option Rho) : Prop := PGs X tgs (tGs X is h)
theorem pgs_w {X : Cx} {tg : List Expr} {t t' : TGs} (h : PGs X tg t) (hw : ∀ v σ H Q, t' v σ H Q → t v σ H Q) : PGs X tg t' := ⟨fun pins s σ H v u Q I r h' => h.run pins s σ H v u Q I r (hw v σ H Q h')⟩
def hNil (ds : List PyData) (ρ : Rho) : Option Rho := match ds with
  | [] => some ρ
  | _ => none
def hCons (h : OV → Rho → Option Rho) (hs : List PyData → Rho → Option Rho) (ds : List PyData) (ρ : Rho) : Option Rho := match ds with
  | [] => none
  | d :: r => match h (.sh d) ρ with
    | some ρ1 => hs r ρ1
    | none => none
theorem egs_nil {is : List Nat} : EvGs X is [] hNil := pgs_w pgs_nil fun vs σ H Q ⟨Hf, T, ρ, F, ds, r, s, h⟩ => by
  cases r with
  | nil => exact ⟨rfl, h σ H Hf rfl (Same.refl _) s⟩
  | cons _ _ => exact h.elim
theorem egs_cons {is : List Nat} {tgs : List Expr} {h1 : OV → Rho → Option Rho} {h2 : List PyData → Rho → Option Rho} (q1 : EvG X is e h1) (q2 : EvGs X is tgs h2) (hs : (assignEach (e :: tgs) X.env).map (·.2) = assign e X.env :: (assignEach tgs X.env).map (·.2) := by rfl) : EvGs X is (e :: tgs) (hCons h1 h2) := pgs_w (pgs_cons q1 q2 hs) fun vs σ H Q ⟨Hf, T, ρ, F, ds, r, s, h⟩ => by
  cases r with
  | nil => exact h.elim
  | @cons v vs d ds r1 r2 =>
    refine ⟨v, vs, rfl, Hf, T, ρ, F, .sh d, s.add r1, ?_⟩
    unfold hCons at h
    simp only at h
    cases q : h1 (.sh d) ρ with
    | none => rw [q] at h; exact h
    | some ρ1 =>
      rw [q] at h
      refine fun σ' H' Hf' ew sm s' => ⟨Hf', T, ρ1, F, ds, r2.mono (.of sm), s', ?_⟩
      simp only at h
      cases q2 : h2 ds ρ1 with
      | none => rw [q2] at h; exact h
      | some ρ2 => rw [q2] at h; exact fun σ2 H2 Hf2 ew2 sm2 => h σ2 H2 Hf2 (ew2.trans ew) (sm.trans sm2)
def hTup (n : Nat) (hs : List PyData → Rho → Option Rho) (o : OV) (ρ : Rho) : Option Rho := match fz o with
  | .tuple ds => if ds.length = n then hs ds ρ else none
  | .list ds => if ds.length = n then hs ds ρ else none
  | _ => none
theorem eg_tup {is : List Nat} {tgs : List Expr} {h : List PyData → Rho → Option Rho} {k : Nat} (G : Good X W m) (hq : EvGs X is tgs h)
    (hn : (assignEach tgs X.env).length = n := by rfl) (hst : (assignEach tgs X.env).findIdx? (·.1) = none := by rfl) : EvG X is (.Tuple tgs k pos) (hTup n h) :=
  pg_w (pg_or (pg_tup G.calm hq hn hst) (pg_lst G.calm hq hn hst)) fun v σ H Q ⟨Hf, T, ρ, F, o, s, hh⟩ => by
    obtain ⟨Hf', sm, s'⟩ := s.freeze
    unfold hTup at hh
    cases hd : fz o with
    | tuple ds =>
      rw [hd] at s'
      simp only [hd] at hh
      by_cases hl : ds.length = n
      · rw [if_pos hl] at hh
        obtain ⟨a, xs, rfl, t1, r1⟩ := s'.rp.sqT
        refine .inl ⟨a, xs, rfl, s'.sub.sqT t1, by rw [r1.len, hl], Hf', T, ρ, F, ds, r1, s'.drop, ?_⟩
        cases q : h ds ρ with
        | none => rw [q] at hh; exact hh
        | some ρ' => rw [q] at hh; exact fun σ2 H2 Hf2 ew sm2 => hh σ2 H2 Hf2 ew (sm.trans sm2)
      · rw [if_neg hl] at hh; exact hh.elim
    | list ds =>
      rw [hd] at s'
      simp only [hd] at hh
      by_cases hl : ds.length = n
      · rw [if_pos hl] at hh
        obtain ⟨a, xs, rfl, t1, r1⟩ := s'.rp.sqL
        refine .inr ⟨a, xs, rfl, s'.sub.sqL t1, by rw [r1.len, hl], Hf', T, ρ, F, ds, r1, s'.drop, ?_⟩
        cases q : h ds ρ with
        | none => rw [q] at hh; exact hh
        | some ρ' => rw [q] at hh; exact fun σ2 H2 Hf2 ew sm2 => hh σ2 H2 Hf2 ew (sm.trans sm2)
      · rw [if_neg hl] at hh; exact hh.elim
    | _ => simp only [hd] at hh
def ofH (r : Option Rho) : Out := match r with
  | some ρ => .next ρ
  | none => .stk
def sAsg (h : OV → Rho → Option Rho) (f : Rho → Re) (ρ : Rho) : Out := bindS (f ρ) fun o ρ1 => ofH (h o ρ1)
theorem es_asg {is : List Nat} {tg : Expr} {h : OV → Rho → Option Rho} (he : EvE X W e f) (hg : EvG X is tg h) (hs : swapsWithSole [tg] e pos.line X.env = pure false := by rfl) (hw : swappedStores [tg] e X.env = pure none := by rfl)
    (h1 : (assignEach [tg] X.env).map (·.2) = [assign tg X.env] := by rfl) : EvS X W (.Assign [tg] e pos) (sAsg h f) := ps_w (ps_asg he hg hs hw h1) fun D σ H ⟨Hf, ρ, F, s, hh⟩ =>
  ⟨Hf, [], ρ, F, s, PostE.bindS hh fun o ρ1 v H1 Hf1 sm s1 h1 => by
    refine ⟨Hf1, [], ρ1, F, o, s1, ?_⟩
    cases q : h o ρ1 with
    | none => rw [q] at h1; exact h1
    | some ρ2 => rw [q] at h1; exact fun σ' H' Hf' ew sm' s' => h1 σ' H' Hf' sm' s'⟩
def sPar (i j : Nat) (fl : Rho → ReL) (ρ : Rho) : Out := match fl ρ with
  | .ok [o, o'] ρ1 => .next ((ρ1.set i (some o)).set j (some o'))
  | .exc e ρ1 => .exc e ρ1
  | _ => .stk
theorem es_par {i j : Nat} {y : Str} {px py pt : Pos} {kt k2 pt2} (G : Good X W m) (hN : X.N.Nodup) (hi : X.N[i]? = some x) (hj : X.N[j]? = some y) (hij : i ≠ j)
    (hx : X.env.scope.names.lookup x = some .local) (hy : X.env.scope.names.lookup y = some .local) (ha : EvL X W [a, b] fl)
    (hw : swappedStores [.Tuple [.Name x px, .Name y py] kt pt] (.Tuple [a, b] k2 pt2) X.env = pure (some [x, y]) := by rfl)
    (hs : swapsWithSole [.Tuple [.Name x px, .Name y py] kt pt] (.Tuple [a, b] k2 pt2) pos.line X.env = pure false := by rfl) :
    EvS X W (.Assign [.Tuple [.Name x px, .Name y py] kt pt] (.Tuple [a, b] k2 pt2) pos) (sPar i j fl) := ps_w (ps_par G.calm hN hi hj hij hx hy ha hw hs) fun D σ H ⟨Hf, ρ, F, s, h⟩ => by
  refine ⟨Hf, [], ρ, F, s, ?_⟩
  unfold sPar at h
  cases q : fl ρ with
  | exc e ρ1 => rw [q] at h; exact fun H' Hf' cls d sm s' => h σ H' Hf' cls d sm s'
  | stk => rw [q] at h; exact h
  | ok os ρ1 =>
    rw [q] at h
    match os, h with
    | [o, o'], h =>
      intro vs H1 Hf1 l sm s1
      match vs, l with
      | [v, w], _ =>
        refine ⟨v, w, rfl, h _ H1 Hf1 sm ?_⟩
        exact SI.put' j (SI.put' i s1)
    | [], h => exact h.elim
    | [_], h => exact h.elim
    | _ :: _ :: _ :: _, h => exact h.elim
structure WalkD (K : PySem.W.Frag) (Hf : Hg) (J : It) (ds : List PyData) : Prop where
  goes : ∀ i H, i < ds.length → Ext Hf (Hf.on H) → J.go i H
  stops : ∀ H, Ext Hf (Hf.on H) → J.stop ds.length H
  yields : ∀ i H y H', i < ds.length → Ext Hf (Hf.on H) → J.yld i H y H' → ∃ d, ds[i]? = some d ∧ ((H' = H ∧ Rp K Hf y d) ∨ (∃ T xs es, y = .ref T ∧ H T = none ∧ H' = upd H T (.tup xs) ∧ RpAll K Hf xs es ∧ d = .tuple es) ∨ ∃ q xs es, y = .ref q ∧ H' = H ∧ H q = some (.tup xs) ∧ RpAll K Hf xs es ∧ d = .tuple es)
inductive ReI where
  | ok (ds : List PyData) (ρ : Rho) | exc (e : Exn) (ρ : Rho) | stk
def tI (X : Cx) (W : WX) (f : Rho → ReI) : TI := fun σ H R => ∃ Hf T ρ F, SI X.K Hf T ρ F σ H ∧ (match f ρ with
  | .ok ds ρ' => ∀ J H' Hf', Same Hf Hf' → SI X.K Hf' T ρ' F σ H' → WalkD X.K Hf' J ds → R J H'
  | .exc e ρ' => ∀ H' Hf' cls d, Same Hf Hf' → SI X.K Hf' [] ρ' F σ H' → ExnIs X.mg X.K Hf' H' e cls d → W cls d σ H'
  | .stk => False)
def EvI (X : Cx) (W : WX) (tg iter : Expr) (f : Rho → ReI) : Prop := PI X tg iter (tI X W f)
theorem pi_w {X : Cx} {tg it : Expr} {t t' : TI} (h : PI X tg it t) (hw : ∀ σ H R, t' σ H R → t σ H R) : PI X tg it t' := ⟨fun pins s σ H R I h' => h.run pins s σ H R I (hw σ H R h')⟩
theorem pi_or {X : Cx} {tg it : Expr} {t t' : TI} (h : PI X tg it t) (h' : PI X tg it t') : PI X tg it (fun σ H R => t σ H R ∨ t' σ H R) := ⟨fun pins s σ H R I q => q.elim (h.run pins s σ H R I) (h'.run pins s σ H R I)⟩
def itemsOf : PyData → Option (List PyData)
  | .list ds => some ds
  | .tuple ds => some ds
  | .str z => some (z.cps.toList.map fun c => .str ⟨#[c]⟩)
  | _ => none
def iVal (f : Rho → Re) (ρ : Rho) : ReI := match f ρ with
  | .ok o ρ1 => match itemsOf (fz o) with
    | some ds => .ok ds ρ1
    | none => .stk
  | .exc e ρ1 => .exc e ρ1
  | .stk => .stk
theorem walkD_list {K : PySem.W.Frag} {Hf : Hg} {a : Addr} {xs : List V} {ds : List PyData} (h : SqL K Hf.h a xs) (r : RpAll K Hf xs ds) : WalkD K Hf (Itl K a) ds := by
  have w := @walk_list K a xs
  refine ⟨fun i H hi e => w.goes i H (by rw [r.len]; exact hi) (e.sqL h), fun H e => by rw [← r.len]; exact w.stops H (e.sqL h), fun i H y H' hi e q => ?_⟩
  obtain ⟨e1, e2⟩ := w.yields i H y H' (by rw [r.len]; exact hi) (e.sqL h) q
  obtain ⟨d, hd, rd⟩ := r.get' e2
  exact ⟨d, hd, .inl ⟨e1, rd⟩⟩
theorem walkD_tup {K : PySem.W.Frag} {Hf : Hg} {a : Addr} {xs : List V} {ds : List PyData} (h : SqT K Hf.h a xs) (r : RpAll K Hf xs ds) : WalkD K Hf (Itt K a) ds := by
  have w := @walk_tup K a xs
  refine ⟨fun i H hi e => w.goes i H (by rw [r.len]; exact hi) (e.sqT h), fun H e => by rw [← r.len]; exact w.stops H (e.sqT h), fun i H y H' hi e q => ?_⟩
  obtain ⟨e1, e2⟩ := w.yields i H y H' (by rw [r.len]; exact hi) (e.sqT h) q
  obtain ⟨d, hd, rd⟩ := r.get' e2
  exact ⟨d, hd, .inl ⟨e1, rd⟩⟩
theorem walkD_str {K : PySem.W.Frag} {Hf : Hg} {z : Str} : WalkD K Hf (L2.Its z) (z.cps.toList.map fun c => .str ⟨#[c]⟩) := by
  have w := @walk_str z
  have hl : (z.cps.toList.map fun c => PyData.str ⟨#[c]⟩).length = z.cps.size := by rw [List.length_map, Array.length_toList]
  refine ⟨fun i H hi _ => w.goes i H (by rw [← hl]; exact hi) trivial, fun H _ => by rw [hl]; exact w.stops H trivial, fun i H y H' hi _ q => ?_⟩
  obtain ⟨e1, c, e2, e3⟩ := w.yields i H y H' (by rw [← hl]; exact hi) trivial q
  refine ⟨.str ⟨#[c]⟩, ?_, .inl ⟨e1, by rw [e3]; exact .str _⟩⟩
  rw [List.getElem?_map, Array.getElem?_toList, e2]
  rfl
theorem ei_val {tg : Expr} (h : EvE X W e f) : EvI X W tg e (iVal f) := pi_w (pi_or (pi_list h) (pi_or (pi_tup h) (pi_str h))) fun σ H R ⟨Hf, T, ρ, F, s, h⟩ => by
  unfold iVal at h
  cases q : f ρ with
  | exc e ρ1 => rw [q] at h; exact .inl ⟨Hf, T, ρ, F, s, by rw [q]; exact h⟩
  | stk => rw [q] at h; exact h.elim
  | ok o ρ1 =>
    simp only [q] at h
    cases q2 : fz o with
    | list ds =>
      simp only [q2, itemsOf] at h
      refine .inl ⟨Hf, T, ρ, F, s, ?_⟩
      rw [q]
      intro v H1 Hf1 sm s1
      obtain ⟨Hf2, sm2, s2⟩ := s1.freeze
      rw [q2] at s2
      obtain ⟨a, xs, rfl, t1, r1⟩ := s2.rp.sqL
      exact ⟨a, rfl, ⟨xs, s2.sub.sqL t1⟩, h _ H1 Hf2 (sm.trans sm2) s2.drop (walkD_list t1 r1)⟩
    | tuple ds =>
      simp only [q2, itemsOf] at h
      refine .inr (.inl ⟨Hf, T, ρ, F, s, ?_⟩)
      rw [q]
      intro v H1 Hf1 sm s1
      obtain ⟨Hf2, sm2, s2⟩ := s1.freeze
      rw [q2] at s2
      obtain ⟨a, xs, rfl, t1, r1⟩ := s2.rp.sqT
      exact ⟨a, rfl, ⟨xs, s2.sub.sqT t1⟩, h _ H1 Hf2 (sm.trans sm2) s2.drop (walkD_tup t1 r1)⟩
    | str z =>
      simp only [q2, itemsOf] at h
      refine .inr (.inr ⟨Hf, T, ρ, F, s, ?_⟩)
      rw [q]
      intro v H1 Hf1 sm s1
      obtain ⟨Hf2, sm2, s2⟩ := s1.freeze
      rw [q2] at s2
      have e := rp_str s2.rp
      subst e
      exact ⟨z, rfl, h _ H1 Hf2 (sm.trans sm2) s2.drop walkD_str⟩
    | _ => simp only [q2, itemsOf] at h
def upto (lo : Int) (n : Nat) : List PyData := (List.range n).map fun i => .int (lo + (i : Nat))
theorem walkD_range {K : PySem.W.Frag} {Hf : Hg} {lo : Int} {n : Nat} : WalkD K Hf (Itr lo n) (upto lo n) := by
  have hl : (upto lo n).length = n := by simp [upto]
  refine ⟨fun i H hi _ => by rw [hl] at hi; exact hi, fun H _ => by rw [hl]; exact Nat.le_refl _, fun i H y H' hi _ q => ?_⟩
  obtain ⟨e1, e2⟩ := q
  rw [hl] at hi
  refine ⟨.int (lo + (i : Nat)), by simp [upto, hi], .inl ⟨e1, ?_⟩⟩
  rw [e2]
  exact .int _
def rngOk (i : Int) : Bool := decide (-(2 ^ 62) ≤ i ∧ i < 2 ^ 62)
def iRange1 (f : Rho → Re) (ρ : Rho) : ReI := match f ρ with
  | .ok (.sh (.int j)) ρ1 => if rngOk j = true then .ok (upto 0 j.toNat) ρ1 else .stk
  | .exc e ρ1 => .exc e ρ1
  | _ => .stk
def iRange2 (fl : Rho → ReL) (ρ : Rho) : ReI := match fl ρ with
  | .ok [.sh (.int i), .sh (.int j)] ρ1 => if (rngOk i && rngOk j) = true then .ok (upto i (j - i).toNat) ρ1 else .stk
  | .exc e ρ1 => .exc e ρ1
  | _ => .stk
theorem ei_range1 {tg : Expr} (hg : Gl X "range") (hm : X.mg "range" = none) (h : EvE X W a f) (hs : starEach [a] X.env = [(false, eval a X.env)] := by rfl) : EvI X W tg (.Call (.Name "range" p) [a] [] pos) (iRange1 f) :=
  pi_w (pi_range1 hg hm (pa_cons h pa_nil (by rw [hs]; rfl)) hs) fun σ H R ⟨Hf, T, ρ, F, s, h⟩ => by
    refine ⟨Hf, T, ρ, F, s, ?_⟩
    unfold iRange1 at h
    cases q : f ρ with
    | exc e ρ1 => rw [q] at h; exact h
    | stk => rw [q] at h; exact h
    | ok o ρ1 =>
      rw [q] at h
      intro v H1 Hf1 sm s1
      cases o with
      | sh d =>
        cases d with
        | int j =>
          simp only at h
          by_cases hr : rngOk j = true
          · rw [if_pos hr] at h
            have e := rp_int s1.rp
            subst e
            have hr' := of_decide_eq_true hr
            exact ⟨j, rfl, hr'.1, hr'.2, h _ H1 Hf1 sm s1.drop walkD_range⟩
          · rw [if_neg hr] at h; exact h.elim
        | _ => exact h.elim
      | _ => exact h.elim
theorem ei_range2 {tg : Expr} (hg : Gl X "range") (hm : X.mg "range" = none) (h : EvL X W [a, b] fl) (hs : starEach [a, b] X.env = [(false, eval a X.env), (false, eval b X.env)] := by rfl) (hs2 : starEach [b] X.env = [(false, eval b X.env)] := by rfl) : EvI X W tg (.Call (.Name "range" p) [a, b] [] pos) (iRange2 fl) :=
  pi_w (pi_range2 hg hm h hs hs2) fun σ H R ⟨Hf, T, ρ, F, s, h⟩ => by
    refine ⟨Hf, T, ρ, F, s, ?_⟩
    unfold iRange2 at h
    cases q : fl ρ with
    | exc e ρ1 => rw [q] at h; exact h
    | stk => rw [q] at h; exact h
    | ok os ρ1 =>
      rw [q] at h
      intro vs H1 Hf1 l sm s1
      match os, h with
      | [.sh (.int i), .sh (.int j)], h =>
        match vs, l with
        | [v, w], _ =>
          by_cases hr : (rngOk i && rngOk j) = true
          · simp only [if_pos hr] at h
            have e1 := rp_int (SI.rp (T := (w, .sh (.int j)) :: T) s1)
            have e2 := rp_int (SI.rp (T := T) (SI.drop (T := (w, .sh (.int j)) :: T) s1))
            subst e1 e2
            rw [Bool.and_eq_true] at hr
            have h1 := of_decide_eq_true hr.1
            have h2 := of_decide_eq_true hr.2
            exact ⟨i, j, rfl, ⟨h1.1, h1.2, h2.1, h2.2⟩, h _ H1 Hf1 sm (SI.drop (T := T) (SI.drop (T := (V.int j, .sh (.int j)) :: T) s1)) walkD_range⟩
          · simp only [if_neg hr] at h
def fgt : List Nat → Rho → Rho
  | [], ρ => ρ
  | i :: is, ρ => fgt is (ρ.set i none)
theorem SI.fgt {K : PySem.W.Frag} {Hf : Hg} {H : Hp} {T : Its} {F : Bs} {σ : St} : ∀ (is : List Nat) {ρ : Rho}, SI K Hf T ρ F σ H → SI K Hf T (fgt is ρ) F σ H
  | [], _, s => s
  | i :: is, _, s => SI.fgt is (s.forget i)
def forL (fs : List Nat) (h : OV → Rho → Option Rho) (body : Rho → Out) : List PyData → Rho → Out
  | [], ρ => .next ρ
  | d :: ds, ρ => match h (.sh d) ρ with
    | none => .stk
    | some ρ1 => match body ρ1 with
      | .next ρ2 => forL fs h body ds (fgt fs ρ2)
      | .cnt ρ2 => forL fs h body ds (fgt fs ρ2)
      | .brk ρ2 => .next (fgt fs ρ2)
      | .ret o ρ2 => .ret o ρ2
      | .exc e ρ2 => .exc e ρ2
      | .stk => .stk
def sFor (fs : List Nat) (fi : Rho → ReI) (h : OV → Rho → Option Rho) (body : Rho → Out) (ρ : Rho) : Out := match fi ρ with
  | .ok ds ρ1 => forL fs h body ds (fgt fs ρ1)
  | .exc e ρ1 => .exc e ρ1
  | .stk => .stk
theorem es_for {is : List Nat} {tg iter : Expr} {fi : Rho → ReI} {h : OV → Rho → Option Rho} {gb : Rho → Out} (fs : List Nat) (G : Good X W m) (hi : EvI X W tg iter fi) (hg : EvG X is tg h) (hb : EvB X W body gb)
    (hs : ∀ x, foldedSetIterable iter X.env x = pure x := by intro _; rfl) : EvS X W (.For tg iter body [] pos) (sFor fs fi h gb) := ps_w (ps_for G.po G.calm hi hg hb hs) fun D σ H ⟨Hf, ρ, F, s, hh⟩ => by
  refine ⟨Hf, [], ρ, F, s, ?_⟩
  unfold sFor at hh
  cases q : fi ρ with
  | exc e ρ1 => rw [q] at hh; exact fun H' Hf' cls d sm s' => hh σ H' Hf' cls d sm s'
  | stk => rw [q] at hh; exact hh
  | ok ds ρ1 =>
    rw [q] at hh
    intro J H1 Hf1 sm1 s1 wd
    refine ⟨fun i m σ H => m = ds.length - i ∧ i ≤ ds.length ∧ ∃ Hf2 ρ2, Same Hf1 Hf2 ∧ SI X.K Hf2 [] ρ2 F σ H ∧ PostS X W Hf2 F (forL fs h gb (ds.drop i) ρ2) D,
      ⟨ds.length, rfl, Nat.zero_le _, Hf1, fgt fs ρ1, Same.refl _, s1.fgt fs, PostS.mono sm1 hh⟩, ?_⟩
    rintro i m σ2 H2 ⟨rfl, hi, Hf2, ρ2, sm2, s2, h2⟩
    have ext : Ext Hf1 (Hf1.on H2) := (Same.ext sm2 s2.sub).on
    by_cases hlt : i < ds.length
    · have hdrop : ds.drop i = ds[i] :: ds.drop (i + 1) := List.drop_eq_getElem_cons hlt
      rw [hdrop] at h2
      refine .inr ⟨wd.goes i H2 hlt ext, fun σ' H' => ∃ Hf3 ρ3, Same Hf1 Hf3 ∧ SI X.K Hf3 [] ρ3 F σ' H' ∧ PostS X W Hf3 F (forL fs h gb (ds.drop (i + 1)) ρ3) D, fun σ' H' ⟨Hf3, ρ3, a1, a2, a3⟩ => ⟨ds.length - (i + 1), by omega, rfl, hlt, Hf3, ρ3, a1, a2, a3⟩, fun y H' hy => ?_⟩
      obtain ⟨d, hd, hy⟩ := wd.yields i H2 y H' hlt ext hy
      have ed : d = ds[i] := by
        rw [List.getElem?_eq_getElem hlt] at hd
        exact (Option.some.inj hd).symm
      subst ed
      have base : ∃ Hf3, Same Hf2 Hf3 ∧ SI X.K Hf3 [(y, .sh ds[i])] ρ2 F σ2 H' := by
        rcases hy with ⟨rfl, r⟩ | ⟨T, xs, es, rfl, hT, rfl, r, e⟩ | ⟨q, xs, es, rfl, rfl, hq, r, e⟩
        · exact ⟨Hf2, Same.refl _, s2.add (r.mono (.of sm2))⟩
        · obtain ⟨its, F2, s3, bk⟩ := s2.ex2
          obtain ⟨s4, sm4⟩ := s3.mkTup (r.mono (.of sm2)) hT
          rw [e]
          exact ⟨_, sm4, bk [_] _ _ sm4 s4⟩
        · obtain ⟨its, F2, s3, bk⟩ := s2.ex2
          obtain ⟨Hf4, sm4, s4⟩ := s3.learn hq (r.mono (.of sm2))
          rw [e]
          exact ⟨_, sm4, bk [_] _ _ sm4 s4⟩
      obtain ⟨Hf3, sm3, s3⟩ := base
      refine ⟨Hf3, [], ρ2, F, .sh ds[i], s3, ?_⟩
      unfold forL at h2
      cases q2 : h (.sh ds[i]) ρ2 with
      | none => rw [q2] at h2; exact h2
      | some ρ3 =>
        simp only [q2] at h2
        refine fun σ4 H4 Hf4 ew sm4 s4 => ⟨Hf4, ρ3, F, s4, ?_⟩
        have h4 := PostS.mono (sm3.trans sm4) h2
        cases q3 : gb ρ3 with
        | next ρ4 =>
          simp only [q3] at h4
          exact fun σ5 H5 Hf5 sm5 s5 => ⟨Hf5, _, (sm2.trans (sm3.trans sm4)).trans sm5, s5.fgt fs, PostS.mono sm5 h4⟩
        | cnt ρ4 =>
          simp only [q3] at h4
          exact fun σ5 H5 Hf5 sm5 s5 => ⟨Hf5, _, (sm2.trans (sm3.trans sm4)).trans sm5, s5.fgt fs, PostS.mono sm5 h4⟩
        | brk ρ4 =>
          simp only [q3] at h4
          exact fun σ5 H5 Hf5 sm5 s5 => h4 σ5 H5 Hf5 sm5 (s5.fgt fs)
        | ret o ρ4 => simp only [q3] at h4; exact h4
        | exc e ρ4 => simp only [q3] at h4; exact h4
        | stk => simp only [q3] at h4; exact h4
    · have e : i = ds.length := by omega
      subst e
      refine .inl ⟨wd.stops H2 ext, ?_⟩
      rw [List.drop_length] at h2
      exact h2 σ2 H2 Hf2 (Same.refl _) s2
end
theorem Slots.congr : ∀ {σ σ' : St} {ρ : Sl} {its : Its}, Slots σ ρ its → σ'.length = σ.length → (∀ (i : Nat) (o : OV), ρ[i]? = some (some o) → σ'[i]? = σ[i]?) → Slots σ' ρ its
  | [], [], _, _, .nil, _, _ => .nil
  | _ :: σ, y :: σ', _, _, .no r, l, h => .no (r.congr (by simpa using l) fun i o q => by simpa using h (i + 1) o (by simpa using q))
  | _ :: σ, y :: σ', _, _, .yes r, l, h => by
    have h0 := h 0 _ rfl
    simp at h0
    subst h0
    exact .yes (r.congr (by simpa using l) fun i o q => by simpa using h (i + 1) o (by simpa using q))
theorem fgt_get : ∀ (is : List Nat) {ρ : Rho} {j : Nat} {o : OV}, (fgt is ρ).sl[j]? = some (some o) → j ∉ is
  | [], _, _, _, _ => by simp
  | i :: is, ρ, j, o, h => by
    have h1 := fgt_get is (ρ := ρ.set i none) h
    intro hm
    rcases List.mem_cons.mp hm with e | hm
    · subst e
      have : ∀ (is : List Nat) (ρ : Rho), (fgt is ρ).sl[j]? = some (some o) → ρ.sl[j]? = some (some o) := by
        intro is
        induction is with
        | nil => intro ρ h; exact h
        | cons k is ih =>
          intro ρ h
          have := ih (ρ.set k none) h
          by_cases e : k = j
          · subst e
            have this : (ρ.sl.set k none)[k]? = some (some o) := this
            by_cases hl : k < ρ.sl.length
            · rw [List.getElem?_set_self hl] at this; cases this
            · rw [List.getElem?_eq_none (by simpa using hl)] at this; cases this
          · have this : (ρ.sl.set k none)[j]? = some (some o) := this
            rw [List.getElem?_set_ne e] at this; exact this
      have h2 := this is (ρ.set j none) h
      have h2 : (ρ.sl.set j none)[j]? = some (some o) := h2
      by_cases hl : j < ρ.sl.length
      · rw [List.getElem?_set_self hl] at h2; cases h2
      · rw [List.getElem?_eq_none (by simpa using hl)] at h2; cases h2
    · exact h1 hm
section
variable {K : PySem.W.Frag} {Hf : Hg} {H : Hp} {T : Its} {F : Bs} {σ σ' : St} {ρ : Rho} {is : List Nat} {i : Nat} {d : PyData}
theorem SI.rewipe (s : SI K Hf T (Ev.fgt is ρ) F σ H) (e : wipe σ' is = wipe σ is) : SI K Hf T (Ev.fgt is ρ) F σ' H := by
  obtain ⟨its, sb, h, ht, s⟩ := s.ex
  have hl : σ'.length = σ.length := by rw [← wipe_length σ' is, e, wipe_length]
  refine ⟨its, sb, h.congr hl fun j o q => ?_, ht, s⟩
  have hj := fgt_get is q
  have := congrArg (·[j]?) e
  simp only [wipe_get] at this
  rw [if_neg (fun z => hj z.1), if_neg (fun z => hj z.1)] at this
  exact this
theorem wipe_wipe (σ : St) (is : List Nat) : wipe (wipe σ is) is = wipe σ is := by
  apply List.ext_getElem?
  intro j
  rw [wipe_get, wipe_length, wipe_get]
  by_cases hj : j ∈ is ∧ j < σ.length
  · rw [if_pos hj, if_pos hj]
  · rw [if_neg hj, if_neg hj]
theorem SI.look (s : SI K Hf T ρ F σ H) (h : ρ.sl[i]? = some (some (.sh d))) : ∃ v, σ[i]? = some (some v) ∧ Rp K Hf v d := by
  obtain ⟨v, h1, s1, _⟩ := s.take h
  exact ⟨v, h1, s1.rp⟩
theorem SI.lay {v : V} (s : SI K Hf T ρ F σ H) (h : σ[i]? = some (some v)) (r : Rp K Hf v d) : SI K Hf T (ρ.set i (some (.sh d))) F σ H := by
  have := SI.put' i (s.add r)
  have e : σ.set i (some v) = σ := by
    apply List.ext_getElem?
    intro j
    by_cases e : i = j
    · subst e
      by_cases hl : i < σ.length
      · rw [List.getElem?_set_self hl, h]
      · rw [List.set_eq_of_length_le (by omega)]
    · rw [List.getElem?_set_ne e]
  rw [e] at this
  exact this
end
def relay : List Nat → Rho → Rho → Rho
  | [], _, ρ => ρ
  | i :: is, ρ0, ρ => match ρ0.sl[i]? with
    | some (some (.sh d)) => relay is ρ0 (ρ.set i (some (.sh d)))
    | _ => relay is ρ0 ρ
theorem SI.relay {K : PySem.W.Frag} {Hf0 Hf : Hg} {H0 H : Hp} {T0 T : Its} {F0 F : Bs} {σ : St} {ρ0 : Rho} (s0 : SI K Hf0 T0 ρ0 F0 σ H0) (sm : Same Hf0 Hf) : ∀ (is : List Nat) {ρ : Rho}, SI K Hf T ρ F σ H → SI K Hf T (relay is ρ0 ρ) F σ H
  | [], _, s => s
  | i :: is, ρ, s => by
    unfold Ev.relay
    split
    · rename_i d q
      obtain ⟨v, h1, r⟩ := s0.look q
      exact SI.relay s0 sm is (s.lay h1 (r.mono (.of sm)))
    · exact SI.relay s0 sm is s
def tYesR (ρ : Rho) : ReB := .ok true ρ
def compL (vs : List Nat) (h : OV → Rho → Option Rho) (tt : Rho → ReB) (te : Rho → Re) : List PyData → Nat → Rho → ReL
  | [], _, ρ => .ok [] ρ
  | d :: ds, k, ρ => match h (.sh d) ρ with
    | none => .stk
    | some ρ1 => match tt ρ1 with
      | .ok true ρ2 => match te ρ2 with
        | .ok o ρ3 => if k < sizeLine then (match compL vs h tt te ds (k + 1) (fgt vs ρ3) with
          | .ok os ρ4 => .ok (o :: os) ρ4
          | _ => .stk) else .stk
        | _ => .stk
      | .ok false ρ2 => compL vs h tt te ds k (fgt vs ρ2)
      | _ => .stk
def eLc (vs : List Nat) (fi : Rho → ReI) (h : OV → Rho → Option Rho) (tt : Rho → ReB) (te : Rho → Re) (ρ : Rho) : Re := match fi ρ with
  | .ok ds ρ1 => match compL vs h tt te ds 0 (fgt vs ρ1) with
    | .ok os ρ2 => .ok (.lst os) (relay vs ρ1 ρ2)
    | _ => .stk
  | .exc e ρ1 => .exc e ρ1
  | .stk => .stk
section
variable {X : Cx} {W : WX} {elt tg iter c : Expr} {ifs : List Expr} {scope : Scope} {own : List (Str × Nat)} {pos : Pos} {fi : Rho → ReI} {h : OV → Rho → Option Rho} {tt : Rho → ReB} {te : Rho → Re} {m : Nat}
def EvTs (X : Cx) (W : WX) (ifs : List Expr) (f : Rho → ReB) : Prop := PTs X ifs (tT X W f)
theorem pts_w {X : Cx} {e : List Expr} {t t' : TT} (h : PTs X e t) (hw : ∀ σ H Q, t' σ H Q → t σ H Q) : PTs X e t' := ⟨fun pins s σ H Q I h' => h.run pins s σ H Q I (hw σ H Q h')⟩
theorem ets_nil : EvTs X W [] tYesR := pts_w pts_nil fun σ H Q ⟨Hf, T, ρ, F, s, h⟩ => h H Hf (Same.refl _) s
theorem ets_one {f : Rho → ReB} (h : EvT X W c f) : EvTs X W [c] f := pts_one h
theorem lc_post (vs : List Nat) {σ : St} {H : Hp} {Q : VK} {Hf : Hg} {T : Its} {ρ : Rho} {F : Bs} (s : SI X.K Hf T ρ F σ H) (hh : PostE X W Hf T F σ (eLc vs fi h tt te ρ) Q) :
    tLc (tI X W fi) (tG X vs h) (tT X W0 tt) (tE X W0 te) vs σ H Q := by
  refine ⟨Hf, T, ρ, F, s, ?_⟩
  unfold eLc at hh
  cases q : fi ρ with
  | exc e ρ1 => rw [q] at hh; exact hh
  | stk => rw [q] at hh; exact hh
  | ok ds ρ1 =>
    rw [q] at hh
    simp only at hh
    intro J H1 Hf1 sm1 s1 wd D hD
    -- what is to come, from the i-th item on
    let Rest : Nat → List OV → Rho → Prop := fun i acc ρi => ∃ os ρe, compL vs h tt te (ds.drop i) acc.length ρi = .ok os ρe ∧ PostE X W Hf1 T F σ (.ok (.lst (acc ++ os)) (relay vs ρ1 ρe)) Q
    have start : Rest 0 [] (fgt vs ρ1) := by
      cases q2 : compL vs h tt te ds 0 (fgt vs ρ1) with
      | ok os ρe => rw [q2] at hh; exact ⟨os, ρe, q2, PostE.mono sm1 hh⟩
      | exc e ρe => rw [q2] at hh; exact hh.elim
      | stk => rw [q2] at hh; exact hh.elim
    refine ⟨fun i m H => m = ds.length - i ∧ i ≤ ds.length ∧ ∃ Hf2 ρ2 acc, Same Hf1 Hf2 ∧ SI X.K Hf2 ((.ref D, .lst acc) :: T) (fgt vs ρ2) F (wipe σ vs) H ∧ Rest i acc (fgt vs ρ2), ⟨ds.length, rfl, Nat.zero_le _, Hf1, ρ1, [], Same.refl _, ?_, start⟩, ?_⟩
    · have s2 := (s1.fgt vs).rewipe (wipe_wipe σ vs)
      obtain ⟨its, F2, s3, bk⟩ := s2.ex2
      exact bk ((.ref D, .lst []) :: T) _ _ (Same.refl _) (SX.newOwn (C := []) s3 hD fun bs hb => by cases hb; exact .lst .nil)
    rintro i m H2 ⟨rfl, hi, Hf2, ρ2, acc, sm2, s2, rest⟩
    have ext : Ext Hf1 (Hf1.on H2) := (Same.ext sm2 s2.sub).on
    by_cases hlt : i < ds.length
    · have hdrop : ds.drop i = ds[i] :: ds.drop (i + 1) := List.drop_eq_getElem_cons hlt
      obtain ⟨os, ρe, hc, hp⟩ := rest
      rw [hdrop] at hc
      unfold compL at hc
      refine .inr ⟨wd.goes i H2 hlt ext, fun H' => ∃ Hf3 ρ3 acc', Same Hf1 Hf3 ∧ SI X.K Hf3 ((.ref D, .lst acc') :: T) (fgt vs ρ3) F (wipe σ vs) H' ∧ Rest (i + 1) acc' (fgt vs ρ3), fun H' ⟨Hf3, ρ3, acc', a1, a2, a3⟩ => ⟨ds.length - (i + 1), by omega, rfl, hlt, Hf3, ρ3, acc', a1, a2, a3⟩, fun y H' hy => ?_⟩
      obtain ⟨d, hd, hy⟩ := wd.yields i H2 y H' hlt ext hy
      have ed : d = ds[i] := by
        rw [List.getElem?_eq_getElem hlt] at hd
        exact (Option.some.inj hd).symm
      subst ed
      have base : ∃ Hf3, Same Hf2 Hf3 ∧ SI X.K Hf3 ((y, .sh ds[i]) :: (.ref D, .lst acc) :: T) (fgt vs ρ2) F (wipe σ vs) H' := by
        rcases hy with ⟨rfl, r⟩ | ⟨U, xs, es, rfl, hU, rfl, r, e⟩ | ⟨q, xs, es, rfl, rfl, hq, r, e⟩
        · exact ⟨Hf2, Same.refl _, s2.add (r.mono (.of sm2))⟩
        · obtain ⟨its, F2, s3, bk⟩ := s2.ex2
          obtain ⟨s4, sm4⟩ := s3.mkTup (r.mono (.of sm2)) hU
          rw [e]
          exact ⟨_, sm4, bk ((_, _) :: (_, _) :: T) _ _ sm4 s4⟩
        · obtain ⟨its, F2, s3, bk⟩ := s2.ex2
          obtain ⟨Hf4, sm4, s4⟩ := s3.learn hq (r.mono (.of sm2))
          rw [e]
          exact ⟨_, sm4, bk ((_, _) :: (_, _) :: T) _ _ sm4 s4⟩
      obtain ⟨Hf3, sm3, s3⟩ := base
      refine ⟨Hf3, (.ref D, .lst acc) :: T, fgt vs ρ2, F, .sh ds[i], s3, ?_⟩
      cases q2 : h (.sh ds[i]) (fgt vs ρ2) with
      | none => simp only [q2] at hc; cases hc
      | some ρ3 =>
        simp only [q2] at hc
        refine fun σ4 H4 Hf4 ew sm4 s4 => ⟨by rw [ew, wipe_wipe], Hf4, (.ref D, .lst acc) :: T, ρ3, F, s4, ?_⟩
        have ew' : wipe (wipe σ vs) vs = wipe σ4 vs := ew.symm
        cases q3 : tt ρ3 with
        | exc e ρ4 => simp only [q3] at hc; cases hc
        | stk => simp only [q3] at hc; cases hc
        | ok b ρ4 =>
          intro H5 Hf5 sm5 s5
          cases b with
          | false =>
            simp only [q3] at hc
            rw [if_neg Bool.false_ne_true]
            exact ⟨Hf5, ρ4, acc, sm2.trans (sm3.trans (sm4.trans sm5)), (s5.fgt vs).rewipe ew', os, ρe, hc, hp⟩
          | true =>
            simp only [q3] at hc
            rw [if_pos rfl]
            refine ⟨Hf5, (.ref D, .lst acc) :: T, ρ4, F, s5, ?_⟩
            cases q4 : te ρ4 with
            | exc e ρ5 => simp only [q4] at hc; cases hc
            | stk => simp only [q4] at hc; cases hc
            | ok o ρ5 =>
              simp only [q4] at hc
              by_cases hz : acc.length < sizeLine
              · rw [if_pos hz] at hc
                cases q5 : compL vs h tt te (ds.drop (i + 1)) (acc.length + 1) (fgt vs ρ5) with
                | exc e ρ6 => simp only [q5] at hc; cases hc
                | stk => simp only [q5] at hc; cases hc
                | ok os' ρ6 =>
                  simp only [q5] at hc
                  cases hc
                  intro v H6 Hf6 sm6 s6
                  obtain ⟨its, F2, s7, bk⟩ := s6.ex2
                  have s8 := s7.perm (List.Perm.swap (.ref D, .lst acc) (v, o) (T ++ its))
                  obtain ⟨xs, hl, hDD, s9⟩ := s8.push
                  refine ⟨xs, hDD, by rw [hl]; exact hz, Hf6, ρ5, acc ++ [o], sm2.trans (sm3.trans (sm4.trans (sm5.trans sm6))), SI.rewipe (SI.fgt vs (bk ((_, _) :: T) _ _ (Same.refl _) s9)) ew', os', ρe, ?_, ?_⟩
                  · rw [List.length_append]; exact q5
                  · rw [List.append_assoc]; exact hp
              · rw [if_neg hz] at hc; cases hc
    · have e : i = ds.length := by omega
      subst e
      refine .inl ⟨wd.stops H2 ext, ?_⟩
      obtain ⟨os, ρe, hc, hp⟩ := rest
      rw [List.drop_length] at hc
      cases hc
      rw [List.append_nil] at hp
      have s3 : SI X.K Hf2 ((.ref D, .lst acc) :: T) (fgt vs ρ2) F σ H2 := s2.rewipe (wipe_wipe σ vs).symm
      exact hp (.ref D) H2 Hf2 sm2 (SI.relay s1 sm2 vs s3)
theorem ev_lc (G : Good X W m) (hi : EvI X W tg iter fi) (ok : BlkOk X.N X.env.scope scope own)
    (hg : ∀ (s : Shared) (H : Hp) (C : Addr) (cl : List (Str × Addr)) (fp : List Addr), EvG (X.blk s H scope (compEnvC scope cl C X.env) fp) (own.map fun p : Str × Nat => p.2) tg h)
    (ht : ∀ (s : Shared) (H : Hp) (C : Addr) (cl : List (Str × Addr)) (fp : List Addr), EvTs (X.blk s H scope (compEnvC scope cl C X.env) fp) W0 ifs tt)
    (he : ∀ (s : Shared) (H : Hp) (C : Addr) (cl : List (Str × Addr)) (fp : List Addr), EvE (X.blk s H scope (compEnvC scope cl C X.env) fp) W0 elt te) (hs : ∀ x, foldedSetIterable iter X.env x = pure x := by intro _; rfl) :
    EvE X W (.ListComp elt [⟨tg, iter, ifs, 0⟩] scope pos) (eLc (own.map fun p : Str × Nat => p.2) fi h tt te) :=
  pe_w (pe_lc (g := tG X (own.map fun p : Str × Nat => p.2) h) (tt := tT X W0 tt) (te := tE X W0 te) G.calm G.nd hi ok hg ht he hs) fun σ H Q ⟨Hf, T, ρ, F, s, hh⟩ => lc_post _ s hh
theorem es_setLc {i : Nat} {y : Str} {py spos : Pos} (G : Good X W m) (hy : X.N[i]? = some y) (hyl : X.env.scope.names.lookup y = some .local)
    (hsw : swapsWith (.ListComp elt [⟨tg, iter, ifs, 0⟩] scope pos) (some (.Name y py)) spos.line X.env = pure true) (hi : EvI X W tg iter fi) (ok : BlkOk X.N X.env.scope scope own)
    (hg : ∀ (s : Shared) (H : Hp) (C : Addr) (cl : List (Str × Addr)) (fp : List Addr), EvG (X.blk s H scope (compEnvC scope cl C X.env) fp) (own.map fun p : Str × Nat => p.2) tg h)
    (ht : ∀ (s : Shared) (H : Hp) (C : Addr) (cl : List (Str × Addr)) (fp : List Addr), EvTs (X.blk s H scope (compEnvC scope cl C X.env) fp) W0 ifs tt)
    (he : ∀ (s : Shared) (H : Hp) (C : Addr) (cl : List (Str × Addr)) (fp : List Addr), EvE (X.blk s H scope (compEnvC scope cl C X.env) fp) W0 elt te) (hs : ∀ x, foldedSetIterable iter X.env x = pure x := by intro _; rfl) :
    EvS X W (.Assign [.Name y py] (.ListComp elt [⟨tg, iter, ifs, 0⟩] scope pos) spos) (sSet i (eLc (own.map fun p : Str × Nat => p.2) fi h tt te)) :=
  ps_w (ps_setLc (g := tG X (own.map fun p : Str × Nat => p.2) h) (tt := tT X W0 tt) (te := tE X W0 te) G.calm G.nd hy hyl hsw hi ok hg ht he hs) fun D σ H ⟨Hf, ρ, F, s, hh⟩ => by
    have z : tE X W (eLc (own.map fun p : Str × Nat => p.2) fi h tt te) σ H fun v H1 => gName i v σ H1 D.nx :=
      ⟨Hf, [], ρ, F, s, PostE.bindS hh fun o ρ1 v H1 Hf1 sm s1 h1 => h1 _ H1 Hf1 (Same.refl _) (s1.put' i)⟩
    obtain ⟨Hf', T', ρ', F', s', h'⟩ := z
    exact lc_post _ s' h'
end
def putG {κ α : Type} [DecidableEq κ] : List (κ × α) → κ → α → List (κ × α)
  | [], k, x => [(k, x)]
  | (k', y) :: r, k, x => if k' = k then (k', x) :: r else (k', y) :: putG r k x
theorem putK_eq {κ : Type} [DecidableEq κ] (k : κ) (v : V) : ∀ {kvs : List (κ × V)}, (kvs.map (·.1)).Nodup → putK kvs k v = putG kvs k v
  | [], _ => rfl
  | (k', y) :: r, n => by
    have n' := List.nodup_cons.mp (show (k' :: r.map (·.1)).Nodup from n)
    have ih := putK_eq k v n'.2
    unfold putG
    by_cases e : k' = k
    · subst e
      rw [if_pos rfl]
      unfold putK
      rw [if_pos (by simp)]
      rw [List.map_cons, if_pos rfl]
      have : r.map (fun kv : κ × V => if kv.1 = k' then (kv.1, v) else kv) = r := by
        conv => rhs; rw [← List.map_id r]
        refine List.map_congr_left fun p hp => ?_
        rw [if_neg]
        · rfl
        · intro z; exact n'.1 (by rw [← z]; exact List.mem_map.mpr ⟨p, hp, rfl⟩)
      rw [this]
    · rw [if_neg e, ← ih]
      unfold putK
      by_cases h : (r.any fun kv => decide (kv.1 = k)) = true
      · rw [if_pos h, if_pos (by rw [List.any_cons, h, Bool.or_true]), List.map_cons, if_neg e]
      · rw [if_neg h, if_neg (by rw [List.any_cons, decide_eq_false e, Bool.false_or]; exact h)]
        rfl
section
variable {K : PySem.W.Frag} {Hf : Hg} {H : Hp} {its : Its} {F : Fr} {bs : Bs} {v : V} {o : OV} {a : Addr}
theorem ownL_put {κ : Type} [DecidableEq κ] (k : κ) {b : Bs} (hv : Own K Hf v o b) : ∀ {ks : List κ} {vs : List V} {os : List OV} {bs : Bs}, ks.Nodup → ks.length = vs.length → OwnL K Hf vs os bs →
    ∃ (ks' : List κ) (vs' : List V) (os' : List OV) (cs dr : Bs), ks'.Nodup ∧ (∀ x, x ∈ ks' ↔ x ∈ ks ∨ x = k) ∧ ks'.length = vs'.length ∧ putG (ks.zip vs) k v = ks'.zip vs' ∧ putG (ks.zip os) k o = ks'.zip os' ∧ OwnL K Hf vs' os' cs ∧ (cs ++ dr).Perm (bs ++ b)
  | [], [], _, _, _, _, .nil => ⟨[k], [v], [o], b ++ [], [], by simp, by simp, rfl, rfl, rfl, .cons hv .nil, by simp⟩
  | k' :: ks, w :: vs, p :: os, _, n, l, .cons (b1 := b1) (b2 := b2) h r => by
    have n' := List.nodup_cons.mp n
    by_cases e : k' = k
    · subst e
      refine ⟨k' :: ks, v :: vs, o :: os, b ++ b2, b1, n, fun x => by simp [or_comm], l, ?_, ?_, .cons hv r, ?_⟩
      · simp [putG]
      · simp [putG]
      · have h1 : (b ++ b2 ++ b1).Perm (b1 ++ (b ++ b2)) := List.perm_append_comm
        have h2 : (b1 ++ (b ++ b2)).Perm (b1 ++ (b2 ++ b)) := List.Perm.append_left _ List.perm_append_comm
        have h3 := h1.trans h2
        simpa [List.append_assoc] using h3
    · obtain ⟨ks', vs', os', cs, dr, m, mm, l', e1, e2, h', q⟩ := ownL_put k hv (ks := ks) (vs := vs) (os := os) n'.2 (by simpa using l) r
      refine ⟨k' :: ks', w :: vs', p :: os', b1 ++ cs, dr, ?_, fun x => ?_, by simp [l'], ?_, ?_, .cons h h', ?_⟩
      · exact List.nodup_cons.mpr ⟨fun z => by
          rcases (mm k').mp z with z | z
          · exact n'.1 z
          · exact e z, m⟩
      · rw [List.mem_cons, List.mem_cons, mm x, or_assoc]
      · simp [putG, e, e1]
      · simp [putG, e, e2]
      · rw [List.append_assoc, List.append_assoc]
        exact q.append_left b1
theorem SX.setAt {os : List OV} {i : Nat} (hi : i < os.length) (s : SX K Hf ((.ref a, .lst os) :: (v, o) :: its) F H) : ∃ vs, vs.length = os.length ∧ H a = some (.lst vs) ∧ SX K Hf ((.ref a, .lst (os.set i o)) :: its) F (upd H a (.lst (vs.set i v))) := by
  obtain ⟨u, u', h1, ⟨vs, rfl, rfl, hl⟩, h2⟩ := SX.chg (C := [(v, o)]) (o' := .lst (os.set i o)) (fun u u' => ∃ vs, u = .lst vs ∧ u' = .lst (vs.set i v) ∧ vs.length = os.length) (by rintro _ _ ⟨_, rfl, _⟩ _ h; cases h) s (fun bs q => by
    cases q with
    | @lst _ vs _ b0 q =>
      refine ⟨_, _, rfl, fun c1 hc => ?_⟩
      cases hc with
      | @cons _ _ _ b _ hc hr =>
        cases hr
        obtain ⟨w, c0, d1, c2, _, rfl, _, f⟩ := q.split (List.getElem?_eq_getElem hi)
        refine ⟨.lst (vs.set i v), c0 ++ b ++ c2, d1, ?_, .lst (f o b v hc), vs, rfl, rfl, q.len⟩
        rw [List.append_nil]
        have h1 : (c0 ++ b ++ c2 ++ d1).Perm (c0 ++ (d1 ++ (c2 ++ b))) := by
          rw [List.append_assoc, List.append_assoc]
          refine List.Perm.append_left _ ?_
          have : (b ++ (c2 ++ d1)).Perm ((c2 ++ d1) ++ b) := List.perm_append_comm
          refine this.trans ?_
          rw [← List.append_assoc]
          exact List.Perm.append_right _ List.perm_append_comm
        simpa [List.append_assoc] using h1)
  exact ⟨vs, hl, h1, h2⟩
theorem SX.putDK {kvs : List (Key × OV)} (k : Key) (s : SX K Hf ((.ref a, .dk kvs) :: (v, o) :: its) F H) : ∃ kv, kv.length = kvs.length ∧ H a = some (.dK kv) ∧ SX K Hf ((.ref a, .dk (putG kvs k o)) :: its) F (upd H a (.dK (putK kv k v))) := by
  obtain ⟨u, u', h1, ⟨kv, rfl, rfl, hl⟩, h2⟩ := SX.chg (C := [(v, o)]) (o' := .dk (putG kvs k o)) (fun u u' => ∃ kv, u = .dK kv ∧ u' = .dK (putK kv k v) ∧ kv.length = kvs.length) (by rintro _ _ ⟨_, rfl, _⟩ _ h; cases h) s (fun bs q => by
    cases q with
    | @dk _ ks vs os b0 l nd q =>
      refine ⟨_, _, rfl, fun c1 hc => ?_⟩
      cases hc with
      | @cons _ _ _ b _ hc hr =>
        cases hr
        obtain ⟨ks', vs', os', cs, dr, m, _, l', e1, e2, h', qq⟩ := ownL_put k hc nd l q
        refine ⟨.dK (ks'.zip vs'), cs, dr, by simpa using qq, ?_, ks.zip vs, rfl, ?_, ?_⟩
        · rw [e2]; exact .dk l' m h'
        · rw [putK_eq k v (by rw [zip_fst_map (fun x => x) ks vs l]; simpa using nd), e1]
        · simp [l, q.len])
  exact ⟨kv, hl, h1, h2⟩
theorem SX.putDT {kvs : List (List Key × OV)} (k : List Key) (s : SX K Hf ((.ref a, .dt kvs) :: (v, o) :: its) F H) : ∃ kv, kv.length = kvs.length ∧ H a = some (.dT kv) ∧ SX K Hf ((.ref a, .dt (putG kvs k o)) :: its) F (upd H a (.dT (putK kv k v))) := by
  obtain ⟨u, u', h1, ⟨kv, rfl, rfl, hl⟩, h2⟩ := SX.chg (C := [(v, o)]) (o' := .dt (putG kvs k o)) (fun u u' => ∃ kv, u = .dT kv ∧ u' = .dT (putK kv k v) ∧ kv.length = kvs.length) (by rintro _ _ ⟨_, rfl, _⟩ _ h; cases h) s (fun bs q => by
    cases q with
    | @dt _ ks vs os b0 l nd q =>
      refine ⟨_, _, rfl, fun c1 hc => ?_⟩
      cases hc with
      | @cons _ _ _ b _ hc hr =>
        cases hr
        obtain ⟨ks', vs', os', cs, dr, m, _, l', e1, e2, h', qq⟩ := ownL_put k hc nd l q
        refine ⟨.dT (ks'.zip vs'), cs, dr, by simpa using qq, ?_, ks.zip vs, rfl, ?_, ?_⟩
        · rw [e2]; exact .dt l' m h'
        · rw [putK_eq k v (by rw [zip_fst_map (fun x => x) ks vs l]; simpa using nd), e1]
        · simp [l, q.len])
  exact ⟨kv, hl, h1, h2⟩
theorem SX.more {os : List OV} {ys : List V} {ds : List PyData} (s : SX K Hf ((.ref a, .lst os) :: its) F H) (r : RpAll K Hf ys ds) : ∃ vs, vs.length = os.length ∧ H a = some (.lst vs) ∧ SX K Hf ((.ref a, .lst (os ++ ds.map .sh)) :: its) F (upd H a (.lst (vs ++ ys))) := by
  obtain ⟨u, u', h1, ⟨vs, rfl, rfl, hl⟩, h2⟩ := SX.chg (C := []) (o' := .lst (os ++ ds.map .sh)) (fun u u' => ∃ vs, u = .lst vs ∧ u' = .lst (vs ++ ys) ∧ vs.length = os.length) (by rintro _ _ ⟨_, rfl, _⟩ _ h; cases h) s (fun bs q => by
    cases q with
    | @lst _ vs _ b0 q =>
      refine ⟨_, _, rfl, fun c1 hc => ?_⟩
      cases hc
      exact ⟨.lst (vs ++ ys), _, [], by simp, .lst (q.append (.of_rp r)), vs, rfl, rfl, q.len⟩)
  exact ⟨vs, hl, h1, h2⟩
theorem SX.unlist {os : List OV} (s : SX K Hf ((.ref a, .lst os) :: its) F H) : ∃ vs, vs.length = os.length ∧ H a = some (.lst vs) ∧ SX K Hf (vs.zip os ++ its) F H := by
  obtain ⟨⟨bs, h, n, al⟩, e, mm⟩ := s
  cases h with
  | @cons _ _ _ b1 b2 h r =>
    cases h with
    | @lst _ vs _ b0 q =>
      refine ⟨vs, q.len, (al (a, .lst vs) (by simp)).1, ⟨b0 ++ b2, q.its.append r, ?_, fun p hp => al p ?_⟩, e, mm⟩
      · have n' : (a :: ((b0 ++ b2 ++ F.b).map (·.1))).Nodup := by simpa using n
        exact (List.nodup_cons.mp n').2
      · have : p ∈ (a, HO.lst vs) :: (b0 ++ b2 ++ F.b) := List.mem_cons_of_mem _ hp
        simpa using this
theorem SX.kref {kvs : List (Key × OV)} (s : SX K Hf ((v, .dk kvs) :: its) F H) : ∃ a kv, v = .ref a ∧ H a = some (.dK kv) := by
  obtain ⟨⟨bs, h, n, al⟩, e, mm⟩ := s
  cases h with
  | cons h r => cases h; exact ⟨_, _, rfl, (al _ (List.mem_append_left _ (List.mem_append_left _ List.mem_cons_self))).1⟩
theorem SX.tref {kvs : List (List Key × OV)} (s : SX K Hf ((v, .dt kvs) :: its) F H) : ∃ a kv, v = .ref a ∧ H a = some (.dT kv) := by
  obtain ⟨⟨bs, h, n, al⟩, e, mm⟩ := s
  cases h with
  | cons h r => cases h; exact ⟨_, _, rfl, (al _ (List.mem_append_left _ (List.mem_append_left _ List.mem_cons_self))).1⟩
end
def OpM (K : PySem.W.Frag) (r : V → List V → Hp → VK → Prop) (g : OV → List OV → Option (OV × OV)) : Prop :=
  ∀ (Hf : Hg) (its : Its) (F : Fr) (H : Hp) (v : V) (o : OV) (vs : List V) (os : List OV) (o' res : OV) (Q : VK), vs.length = os.length → SX K Hf ((v, o) :: (vs.zip os ++ its)) F H → g o os = some (o', res) →
    (∀ x H' Hf', Same Hf Hf' → SX K Hf' ((x, res) :: (v, o') :: its) F H' → Q x H') → r v vs H Q
def ownT : OV → String
  | .lst _ => "list"
  | .dk _ => "dict"
  | .dt _ => "dict"
  | .sh _ => ""
  | .tup _ => ""
theorem tyV_own {K : PySem.W.Frag} {Hf : Hg} {H : Hp} {its : Its} {F : Fr} {v : V} {o : OV} (s : SX K Hf ((v, o) :: its) F H) (h : ownT o ≠ "") : tyV K (ownT o) v H := by
  cases o with
  | sh d => exact absurd rfl h
  | tup d => exact absurd rfl h
  | lst os =>
    obtain ⟨a, rfl⟩ := s.lstRef
    obtain ⟨vs, _, h1⟩ := s.lstAt
    exact .inl ⟨rfl, vs, SqL.of h1⟩
  | dk kvs =>
    obtain ⟨a, kv, rfl, h1⟩ := s.kref
    exact .inr (.inr (.inl ⟨rfl, .inl ⟨kv, h1⟩⟩))
  | dt kvs =>
    obtain ⟨a, kv, rfl, h1⟩ := s.tref
    exact .inr (.inr (.inl ⟨rfl, .inr ⟨kv, h1⟩⟩))
def ofM (i : Nat) (g : OV → List OV → Option (OV × OV)) (os : List OV) (ρ : Rho) : Re := match ρ.sl[i]? with
  | some (some o) => match g o os with
    | some (o', res) => .ok res (ρ.set i (some o'))
    | none => .stk
  | _ => .stk
def eMut (i : Nat) (T : String) (g : OV → List OV → Option (OV × OV)) (fl : Rho → ReL) (ρ : Rho) : Re := match ρ.sl[i]? with
  | some (some o) => if ownT o = T then bindL (fl ρ) (ofM i g) else .stk
  | _ => .stk
section
variable {X : Cx} {W : WX} {e a b c : Expr} {es : List Expr} {f fa fb fk : Rho → Re} {fl : Rho → ReL} {pos apos cpos : Pos} {n m k : Nat} {x : Str} {name : Str} {T id : String} {r : V → List V → Hp → VK → Prop} {g : OV → List OV → Option (OV × OV)}
theorem mut_post {i : Nat} (ho : OpM X.K r g) {Hf : Hg} {T' : Its} {ρ : Rho} {F : Bs} {σ : St} {H : Hp} {Q : VK} {v : V} {vs : List V} {os : List OV} (hv : σ[i]? = some (some v)) (l : vs.length = os.length) (s : SI X.K Hf (vs.zip os ++ T') ρ F σ H) (h : PostE X W Hf T' F σ (ofM i g os ρ) Q) : r v vs H Q := by
  unfold ofM at h
  cases q : ρ.sl[i]? with
  | none => rw [q] at h; exact h.elim
  | some y =>
    cases y with
    | none => rw [q] at h; exact h.elim
    | some o =>
      simp only [q] at h
      cases q2 : g o os with
      | none => simp only [q2] at h; exact h.elim
      | some p =>
        obtain ⟨o', res⟩ := p
        simp only [q2] at h
        obtain ⟨w, hw, s1, back⟩ := s.take q
        rw [hv] at hw
        obtain rfl : v = w := by injection hw with z; injection z
        obtain ⟨its, F2, s2, bk⟩ := s1.ex2
        have e1 : (v, o) :: (vs.zip os ++ T') ++ its = (v, o) :: (vs.zip os ++ (T' ++ its)) := by simp
        rw [e1] at s2
        refine ho Hf (T' ++ its) F2 H v o vs os o' res Q l s2 q2 fun y H' Hf' sm s3 => h y H' Hf' sm ?_
        have s4 : SX X.K Hf' ((v, o') :: (y, res) :: (T' ++ its)) F2 H' := s3.perm (List.Perm.swap _ _ _)
        have := SI.put' (T := (y, res) :: T') (o := o') (v := v) i (bk _ _ _ sm s4)
        have e2 : (ρ.set i none).set i (some o') = ρ.set i (some o') := by simp
        have e3 : σ.set i (some v) = σ := by
          apply List.ext_getElem?
          intro j
          by_cases e : i = j
          · subst e
            by_cases hl : i < σ.length
            · rw [List.getElem?_set_self hl, hv]
            · rw [List.set_eq_of_length_le (by omega)]
          · rw [List.getElem?_set_ne e]
        rw [e2, e3] at this
        exact this
def mApp (o : OV) (os : List OV) : Option (OV × OV) := match o, os with
  | .lst xs, [y] => if xs.length < sizeLine then some (.lst (xs ++ [y]), .sh .none) else none
  | _, _ => none
theorem opm_app {K : PySem.W.Frag} : OpM K rAppend mApp := by
  intro Hf its F H v o vs os o' res Q l s h q
  unfold mApp at h
  split at h
  · rename_i xs y
    split at h
    · rename_i hz
      cases h
      match vs, l with
      | [w], _ =>
        obtain ⟨ad, rfl⟩ := s.lstRef
        obtain ⟨ws, hl, h1, s2⟩ := SX.push (its := its) s
        exact ⟨ad, ws, w, rfl, rfl, h1, by rw [hl]; exact hz, q _ _ _ (Same.refl _) (s2.add .non)⟩
    · cases h
  · cases h
def mExt (o : OV) (os : List OV) : Option (OV × OV) := match o, os with
  | .lst xs, [.lst ys] => if xs.length + ys.length ≤ sizeLine then some (.lst (xs ++ ys.map fun y => .sh (fz y)), .sh .none) else none
  | _, _ => none
theorem opm_ext {K : PySem.W.Frag} : OpM K rExtend mExt := by
  intro Hf its F H v o vs os o' res Q l s h q
  unfold mExt at h
  split at h
  · rename_i xs ys
    split at h
    · rename_i hz
      cases h
      match vs, l with
      | [w], _ =>
        obtain ⟨ad, rfl⟩ := s.lstRef
        have s1 : SX K Hf ((w, .lst ys) :: (V.ref ad, .lst xs) :: its) F H := s.perm (List.Perm.swap _ _ _)
        obtain ⟨bd, rfl⟩ := s1.lstRef
        obtain ⟨zs, hl2, h2, s3⟩ := s1.unlist
        obtain ⟨Hf', sm, ra, s5⟩ := SX.freezeAll (its := (V.ref ad, .lst xs) :: its) zs ys Hf hl2 s3
        obtain ⟨ws, hl, h1, s4⟩ := s5.more ra
        rw [List.map_map] at s4
        exact ⟨ad, bd, ws, zs, rfl, rfl, h1, h2, by rw [hl, hl2]; exact hz, q _ _ _ sm (s4.add .non)⟩
    · cases h
  · cases h
end
section
variable {X : Cx} {W : WX} {e a b c : Expr} {es : List Expr} {f fa fb fk : Rho → Re} {fl : Rho → ReL} {p pos apos cpos : Pos} {n m k : Nat} {x : Str}
def tPo (X : Cx) (W : WX) : Option (Rho → Re) → TO
  | none => tNoPart
  | some f => tPart (tE X W f)
def EvO (X : Cx) (W : WX) (e : Option Expr) (f : Option (Rho → Re)) : Prop := PO X e (tPo X W f)
theorem eo_none : EvO X W none none := po_none
theorem eo_some (h : EvE X W e f) : EvO X W (some e) (some f) := po_some h
def partR (f : Option (Rho → Re)) (ρ : Rho) (k : Option Int → Rho → Re) : Re := match f with
  | none => k none ρ
  | some f => bindE (f ρ) fun o ρ1 => match o with
    | .sh (.int i) => k (some i) ρ1
    | _ => .stk
theorem part_post {fo : Option (Rho → Re)} {Hf : Hg} {T T' : Its} {ρ : Rho} {F : Bs} {σ : St} {H : Hp} {Q : VK} {kk : Option Int → Rho → Re} {Q1 : Option Int → Hp → Prop} (s : SI X.K Hf T' ρ F σ H) (h : PostE X W Hf T F σ (partR fo ρ kk) Q)
    (hk : ∀ i ρ1 H1 Hf1, Same Hf Hf1 → SI X.K Hf1 T' ρ1 F σ H1 → PostE X W Hf1 T F σ (kk i ρ1) Q → Q1 i H1) : tPo X W fo σ H Q1 := by
  cases fo with
  | none => exact hk none ρ H Hf (Same.refl _) s h
  | some f =>
    refine ⟨Hf, T', ρ, F, s, PostE.bind h fun o ρ1 v H1 Hf1 sm s1 h1 => ?_⟩
    cases o with
    | sh d =>
      cases d with
      | int i =>
        have e := rp_int s1.rp
        subst e
        exact ⟨i, rfl, hk (some i) ρ1 H1 Hf1 sm s1.drop h1⟩
      | _ => exact h1.elim
    | _ => exact h1.elim
def cutD {α : Type} (xs : List α) (lo hi : Option Int) : List α := (xs.drop (HT.sIx xs.length 0 lo)).take (HT.sIx xs.length xs.length hi - HT.sIx xs.length 0 lo)
theorem rpAll_cut {K : PySem.W.Frag} {H : Hg} {vs : List V} {ds : List PyData} (r : RpAll K H vs ds) (lo hi : Option Int) : RpAll K H (cutV vs lo hi) (cutD ds lo hi) := by
  unfold cutV cutD
  rw [r.len]
  exact (r.drop _).take _
def gSl (a : OV) (lo hi : Option Int) : Option OV := match fz a with
  | .list ds => some (.lst ((cutD ds lo hi).map .sh))
  | .tuple ds => some (.sh (.tuple (cutD ds lo hi)))
  | .str z => if z.length ≤ sizeLine then some (.sh (.str (cutS z lo hi))) else none
  | _ => none
def eSl (fa : Rho → Re) (lo hi : Option (Rho → Re)) (ρ : Rho) : Re := bindE (fa ρ) fun a ρ1 => partR lo ρ1 fun l ρ2 => partR hi ρ2 fun h ρ3 => ofO (gSl a l h) ρ3
theorem ev_sl {lo hi : Option Expr} {fl fh : Option (Rho → Re)} {p2 : Pos} (ha : EvE X W a fa) (hl : EvO X W lo fl) (hh : EvO X W hi fh) : EvE X W (.Subscript a (.Slice lo hi none p2) pos) (eSl fa fl fh) :=
  pe_w (pe_slice (sl_list.or (sl_tupA.or sl_str)) ha hl hh) fun σ H Q ⟨Hf, T, ρ, F, s, h⟩ => by
    refine ⟨Hf, T, ρ, F, s, PostE.bind h fun o ρ1 v H1 Hf1 sm s1 h1 => ?_⟩
    refine part_post s1 h1 fun l ρ2 H2 Hf2 sm2 s2 h2 => ?_
    refine part_post s2 h2 fun u ρ3 H3 Hf3 sm3 s3 h3 => ?_
    obtain ⟨Hf4, sm4, s4⟩ := s3.freeze
    unfold gSl at h3
    cases hd : fz o with
    | list ds =>
      rw [hd] at s4
      simp only [hd, ofO] at h3
      obtain ⟨ad, xs, rfl, t1, r1⟩ := s4.rp.sqL
      refine .inl ⟨ad, xs, rfl, s4.sub.sqL t1, fun q hq => ?_⟩
      obtain ⟨its, F2, s5, bk⟩ := s4.drop.ex2
      exact h3 _ _ _ sm4 (bk (_ :: _) _ _ (Same.refl _) (s5.mkLst (rpAll_cut r1 l u) hq))
    | tuple ds =>
      rw [hd] at s4
      simp only [hd, ofO] at h3
      obtain ⟨ad, xs, rfl, t1, r1⟩ := s4.rp.sqT
      refine .inr (.inl ⟨ad, xs, rfl, s4.sub.sqT t1, fun hw => ?_, fun hw q hq => ?_⟩)
      · have e : cutD ds l u = ds := by
          unfold cutD
          rw [← r1.len, hw.1, hw.2, List.drop_zero, Nat.sub_zero, r1.len, List.take_length]
        rw [e] at h3
        exact h3 _ _ _ sm4 s4
      · obtain ⟨its, F2, s5, bk⟩ := s4.drop.ex2
        obtain ⟨s6, sm6⟩ := s5.mkTup (rpAll_cut r1 l u) hq
        exact h3 _ _ _ (sm4.trans sm6) (bk (_ :: _) _ _ sm6 s6)
    | str z =>
      rw [hd] at s4
      simp only [hd] at h3
      by_cases hz : z.length ≤ sizeLine
      · rw [if_pos hz] at h3
        have e := rp_str s4.rp
        subst e
        exact .inr (.inr ⟨z, rfl, hz, h3 _ _ _ sm4 (s4.drop.add (.str _))⟩)
      · rw [if_neg hz] at h3; exact h3.elim
    | _ => simp only [hd, ofO] at h3; exact h3.elim
theorem ev_dnewT : EvE X W (.Dict [] [] pos) fun ρ => .ok (.dt []) ρ := pe_w pe_dnewT fun σ H Q ⟨Hf, T, ρ, F, s, h⟩ q hq => by
  obtain ⟨its, F2, s2, bk⟩ := s.ex2
  exact h _ _ _ (Same.refl _) (bk (_ :: _) _ _ (Same.refl _) (SX.newOwn (C := []) s2 hq fun bs hb => by cases hb; exact .dt (ks := []) (vs := []) (os := []) rfl List.nodup_nil .nil))
end
def setO (c : OV) (k : PyData) (o : OV) : Option OV := match c with
  | .lst os => match k with
    | .int j => (ixN os.length j).map fun j => .lst (os.set j o)
    | _ => none
  | .dk kvs => match asDK k with
    | some (.inl q) => if kvs.length < sizeLine then some (.dk (putG kvs q o)) else none
    | _ => none
  | .dt kvs => match asDK k with
    | some (.inr q) => if kvs.length < sizeLine ∧ fineK (.inr q) = true then some (.dt (putG kvs q o)) else none
    | _ => none
  | .sh _ => none
  | .tup _ => none
def rSetA : TSet := fun o i v H Q => rSetL o i v H Q ∨ ∃ a H', o = .ref a ∧ DPut H a i v H' ∧ Q H'
theorem set_any {X : Cx} (hu : X.A.units + 1 < cLine) : PSet X rSetA := fun pins s σ H o i v ov iv u Q I ro ri rv h => by
  rcases h with h | ⟨a, H', e, g, q⟩
  · exact set_list pins s σ H o i v ov iv u Q I ro ri rv h
  · subst e
    cases ro
    exact d_setItem hu I g ri rv fun s' I' => ⟨H', I', q⟩
theorem ixN_lt {n : Nat} {i : Int} {j : Nat} (h : ixN n i = some j) : j < n := (ixN_seq h).2.1
theorem SX.setO {K : PySem.W.Frag} {Hf : Hg} {H : Hp} {its : Its} {F : Fr} {v w y : V} {c c' o : OV} {k : PyData} {Q : Hp → Prop} (s : SX K Hf ((v, c) :: (w, o) :: its) F H) (r : Rp K (Hf.on H) y k) (h : Ev.setO c k o = some c')
    (q : ∀ H', SX K Hf ((v, c') :: its) F H' → Q H') : rSetA v y w H Q := by
  unfold Ev.setO at h
  cases c with
  | sh d => cases h
  | tup d => cases h
  | lst os =>
    obtain ⟨a, rfl⟩ := s.lstRef
    cases k with
    | int j =>
      obtain ⟨n, hn, rfl⟩ := Option.map_eq_some_iff.mp h
      have e := rp_int r
      subst e
      obtain ⟨vs, hl, h1, s2⟩ := SX.setAt (its := its) (ixN_lt hn) s
      exact .inl ⟨a, vs, j, n, rfl, rfl, h1, by rw [hl]; exact hn, q _ s2⟩
    | _ => cases h
  | dk kvs =>
    simp only at h
    split at h
    · rename_i key hk
      split at h
      · rename_i hz
        cases h
        obtain ⟨a, _, rfl, _⟩ := s.kref
        have ek := asDK_inl hk
        subst ek
        have ey := rp_key r
        subst ey
        obtain ⟨kv, hl, h1, s2⟩ := SX.putDK (its := its) key s
        exact .inr ⟨a, _, rfl, .inl ⟨kv, key, h1, rfl, by rw [hl]; exact hz, rfl⟩, q _ s2⟩
      · cases h
    · cases h
  | dt kvs =>
    simp only at h
    split at h
    · rename_i key hk
      split at h
      · rename_i hz
        cases h
        obtain ⟨a, _, rfl, _⟩ := s.tref
        have ek := asDK_inr hk
        subst ek
        obtain ⟨b, rfl, hb⟩ := rp_keyT r hz.2
        obtain ⟨kv, hl, h1, s2⟩ := SX.putDT (its := its) key s
        exact .inr ⟨a, _, rfl, .inr ⟨kv, key, b, h1, rfl, hb, by rw [hl]; exact hz.1, rfl⟩, q _ s2⟩
      · cases h
    · cases h
theorem set_same {σ : St} {i : Nat} {v : V} (h : σ[i]? = some (some v)) : σ.set i (some v) = σ := by
  apply List.ext_getElem?
  intro j
  by_cases e : i = j
  · subst e
    by_cases hl : i < σ.length
    · rw [List.getElem?_set_self hl, h]
    · rw [List.set_eq_of_length_le (by omega)]
  · rw [List.getElem?_set_ne e]
def ofSt (i : Nat) (k o : OV) (ρ : Rho) : Out := match ρ.sl[i]? with
  | some (some c) => match setO c (fz k) o with
    | some c' => .next (ρ.set i (some c'))
    | none => .stk
  | _ => .stk
def sSetIx (i : Nat) (f fk : Rho → Re) (ρ : Rho) : Out := bindS (f ρ) fun o ρ1 => if (match ρ1.sl[i]? with | some (some _) => true | _ => false) = true then bindS (fk ρ1) fun k ρ2 => ofSt i k o ρ2 else .stk
section
variable {X : Cx} {W : WX} {e a b c : Expr} {es : List Expr} {f fa fb fk : Rho → Re} {fl : Rho → ReL} {p p2 pos apos cpos : Pos} {n m : Nat} {x : Str}
theorem es_setIx {i : Nat} (G : Good X W m) (hx : PE X a (tVar i)) (hk : EvE X W b fk) (he : EvE X W e f)
    (ha : ∀ v, assign (.Subscript a b p) X.env v = (do
      let ov ← holding [v] (eval a X.env)
      let iv ← holding [v, ov] (eval b X.env)
      standAt p
      holding [v, ov, iv] (setItem ov iv v)
      release [v, ov, iv] []) := by intro _; rfl)
    (hs : swapsWithSole [.Subscript a b p] e pos.line X.env = pure false := by rfl) (hw : swappedStores [.Subscript a b p] e X.env = pure none := by rfl)
    (h1 : (assignEach [.Subscript a b p] X.env).map (·.2) = [assign (.Subscript a b p) X.env] := by rfl) : EvS X W (.Assign [.Subscript a b p] e pos) (sSetIx i f fk) :=
  ps_w (ps_asg he (pg_sub hx hk (set_any (by have := G.hu; omega)) ha) hs hw h1) fun D σ H ⟨Hf, ρ, F, s, hh⟩ => by
    refine ⟨Hf, [], ρ, F, s, PostE.bindS hh fun o ρ1 w H1 Hf1 sm1 s1 h1 => ?_⟩
    cases q0 : ρ1.sl[i]? with
    | none => simp [q0] at h1; exact h1.elim
    | some y0 =>
      cases y0 with
      | none => simp [q0] at h1; exact h1.elim
      | some c0 =>
        simp only [q0] at h1
        rw [if_pos trivial] at h1
        obtain ⟨v, hv, _, _⟩ := s1.take q0
        refine ⟨v, hv, Hf1, [(w, o)], ρ1, F, s1, PostE.bindS h1 fun k ρ2 y H2 Hf2 sm2 s2 h2 => ?_⟩
        unfold ofSt at h2
        cases q : ρ2.sl[i]? with
        | none => simp only [q] at h2; exact h2.elim
        | some y1 =>
          cases y1 with
          | none => simp only [q] at h2; exact h2.elim
          | some cc =>
            simp only [q] at h2
            cases q3 : setO cc (fz k) o with
            | none => simp only [q3] at h2; exact h2.elim
            | some c' =>
              simp only [q3] at h2
              obtain ⟨v', hv', s3, _⟩ := s2.take q
              rw [hv] at hv'
              obtain rfl : v = v' := by injection hv' with z; injection z
              have r : Rp X.K (_ : Hg) y (fz k) := s2.rdH
              obtain ⟨its, F2, s4, bk⟩ := s3.ex2
              have s5 : SX X.K Hf2 ((v, cc) :: (w, o) :: its) F2 H2 := SX.drop (s4.perm (List.Perm.swap _ _ _))
              refine SX.setO (its := its) s5 r q3 fun H' s6 => ?_
              refine h2 σ H' Hf2 (Same.refl _) ?_
              have := SI.put' (T := []) i (bk [_] _ _ (Same.refl _) s6)
              rw [set_same hv] at this
              simpa using this
def subO (c : OV) (k : PyData) : Option OV := match c with
  | .lst os => match k with
    | .int j => (ixN os.length j).bind fun j => os[j]?
    | _ => none
  | .dk kvs => match asDK k with
    | some (.inl q) => (kvs.find? fun p => decide (p.1 = q)).map (·.2)
    | _ => none
  | .dt kvs => match asDK k with
    | some (.inr q) => if fineK (.inr q) = true then (kvs.find? fun p => decide (p.1 = q)).map (·.2) else none
    | _ => none
  | .sh _ => none
  | .tup os => match k with
    | .int j => (ixN os.length j).bind fun j => os[j]?
    | _ => none
def putO (c : OV) (k : PyData) (o : OV) : OV := match c with
  | .lst os => match k with
    | .int j => match ixN os.length j with
      | some j => .lst (os.set j o)
      | none => c
    | _ => c
  | .dk kvs => match asDK k with
    | some (.inl q) => .dk (putG kvs q o)
    | _ => c
  | .dt kvs => match asDK k with
    | some (.inr q) => .dt (putG kvs q o)
    | _ => c
  | .sh _ => c
  | .tup os => match k with
    | .int j => match ixN os.length j with
      | some j => .tup (os.set j o)
      | none => c
    | _ => c
end
theorem find_at {κ : Type} [DecidableEq κ] (k : κ) : ∀ {ks : List κ} {os : List OV} {o : OV}, ks.Nodup → ((ks.zip os).find? fun p => decide (p.1 = k)).map (·.2) = some o → ∃ j, ks[j]? = some k ∧ os[j]? = some o ∧ ∀ {β : Type} (ys : List β) (y : β), ys.length = os.length → putG (ks.zip ys) k y = ks.zip (ys.set j y) ∧ (ks.length = os.length → ((ks.zip ys).find? fun p => decide (p.1 = k)).map (·.2) = ys[j]?)
  | [], _, _, _, h => by simp at h
  | _ :: _, [], _, _, h => by simp at h
  | k' :: ks, o' :: os, o, n, h => by
    have n' := List.nodup_cons.mp n
    by_cases e : k' = k
    · subst e
      simp at h
      subst h
      refine ⟨0, rfl, rfl, fun ys y hl => ?_⟩
      cases ys with
      | nil => simp at hl
      | cons z ys => simp [putG]
    · rw [List.zip_cons_cons, List.find?_cons] at h
      simp only [decide_eq_false e] at h
      obtain ⟨j, h1, h2, h3⟩ := find_at k (ks := ks) (os := os) n'.2 h
      refine ⟨j + 1, by simpa using h1, by simpa using h2, fun ys y hl => ?_⟩
      cases ys with
      | nil => simp at hl
      | cons z ys =>
        obtain ⟨a1, a2⟩ := h3 ys y (by simpa using hl)
        refine ⟨by simp [putG, e, a1], fun hk => ?_⟩
        rw [List.zip_cons_cons, List.find?_cons]
        simp only [decide_eq_false e]
        rw [a2 (by simpa using hk)]
        simp
section
variable {K : PySem.W.Frag} {Hf : Hg} {H : Hp} {its : Its} {F : Fr} {v y : V} {c o : OV} {k : PyData}
theorem OwnL.split2 : ∀ {vs : List V} {os : List OV} {bs : Bs} {i : Nat} {o : OV}, OwnL K Hf vs os bs → os[i]? = some o →
    ∃ v b0 b1 b2, vs[i]? = some v ∧ bs = b0 ++ b1 ++ b2 ∧ Own K Hf v o b1 ∧ (∀ Hf' o' b', Ext Hf Hf' → Own K Hf' v o' b' → OwnL K Hf' vs (os.set i o') (b0 ++ b' ++ b2))
  | _, _, _, _, _, .nil, e => by simp at e
  | _, _, _, 0, _, .cons (b1 := b1) (b2 := b2) h r, e => by
    simp at e; subst e
    exact ⟨_, [], b1, b2, rfl, by simp, h, fun Hf' o' b' ex q => by simpa using OwnL.cons q (r.mono ex)⟩
  | _, _, _, i + 1, o, .cons (b1 := c1) (b2 := c2) h r, e => by
    obtain ⟨v, b0, b1, b2, e1, e2, q, f⟩ := OwnL.split2 (i := i) (o := o) r (by simpa using e)
    refine ⟨v, c1 ++ b0, b1, b2, by simpa using e1, by rw [e2]; simp, q, fun Hf' o' b' ex q' => ?_⟩
    have := OwnL.cons (h.mono ex) (f Hf' o' b' ex q')
    simpa using this
theorem SX.focusAt {a : Addr} {u : HO} {vs : List V} {os : List OV} {j : Nat} {G : OV → OV} {F0 : Fr}
    (s : ∃ b0 b2, OwnL K Hf vs os b0 ∧ OwnI K Hf its b2 ∧ ((((a, u) :: b0) ++ b2 ++ F0.b).map (·.1)).Nodup ∧ (∀ p ∈ ((a, u) :: b0) ++ b2 ++ F0.b, H p.1 = some p.2 ∧ Fre Hf p)) (e : Ext Hf (Hf.on H)) (mm : Hf.m = F0.m) (hj : os[j]? = some o)
    (mk : ∀ Hf' o' b', OwnL K Hf' vs (os.set j o') b' → Own K Hf' (.ref a) (G o') ((a, u) :: b')) :
    ∃ (w : V) (F1 : Bs), vs[j]? = some w ∧ SX K Hf ((w, o) :: its) (F1 ++ F0) H ∧ ∀ Hf' H' its' o' F', Same Hf Hf' → SX K Hf' ((w, o') :: its') (F1 ++ F') H' → SX K Hf' ((.ref a, G o') :: its') F' H' := by
  obtain ⟨b0, b2, hos, hits, n, al⟩ := s
  obtain ⟨w, c0, c1, c2, hw, rfl, ho, f⟩ := hos.split2 hj
  have z0 : ∀ d1 d2 F0 : Bs, ((a, u) :: (c0 ++ d1 ++ c2) ++ d2 ++ F0).Perm (d1 ++ d2 ++ ((a, u) :: (c0 ++ c2) ++ F0)) := fun d1 d2 F0 => by
    have z1 : ((a, u) :: (c0 ++ d1 ++ c2)).Perm (d1 ++ ((a, u) :: (c0 ++ c2))) := by
      refine List.Perm.trans ?_ List.perm_middle.symm
      refine List.Perm.cons _ ?_
      rw [List.append_assoc]
      exact List.perm_append_comm_assoc _ _ _
    have q1 : ((a, u) :: (c0 ++ d1 ++ c2) ++ d2).Perm (d1 ++ d2 ++ ((a, u) :: (c0 ++ c2))) := by
      refine (z1.append_right d2).trans ?_
      rw [List.append_assoc, List.append_assoc]
      exact List.Perm.append_left _ List.perm_append_comm
    have := q1.append_right F0
    simpa [List.append_assoc] using this
  refine ⟨w, (a, u) :: (c0 ++ c2), hw, ⟨⟨c1 ++ b2, .cons ho hits, nodup_perm (z0 c1 b2 F0.b) n, fun p hp => al p ((z0 c1 b2 F0.b).mem_iff.mpr hp)⟩, e, mm⟩, fun Hf' H' its' o' F' sm s' => ?_⟩
  obtain ⟨⟨bs', hI', n', al'⟩, e', mm'⟩ := s'
  cases hI' with
  | @cons _ _ _ d1 d2 ho' hits' =>
    exact ⟨⟨((a, u) :: (c0 ++ d1 ++ c2)) ++ d2, .cons (mk Hf' o' _ (f Hf' o' d1 (.of sm) ho')) hits', nodup_perm (z0 d1 d2 F'.b).symm n', fun p hp => al' p ((z0 d1 d2 F'.b).mem_iff.mp hp)⟩, e', mm'⟩
theorem SX.focus (s : SX K Hf ((v, c) :: its) F H) (r : Rp K (Hf.on H) y k) (h : subO c k = some o) :
    ∃ (w : V) (F1 : Bs), (∀ Q : VK, Q w H → rSub K v y H Q) ∧ SX K Hf ((w, o) :: its) (F1 ++ F) H ∧ ∀ Hf' H' its' o' F', Same Hf Hf' → SX K Hf' ((w, o') :: its') (F1 ++ F') H' → SX K Hf' ((v, putO c k o') :: its') F' H' := by
  obtain ⟨⟨bs, hI, n, al⟩, e, mm⟩ := s
  cases hI with
  | @cons _ _ _ b1 b2 hv hits =>
  unfold subO at h
  cases c with
  | sh d => cases h
  | tup os =>
    cases hv with
    | @tup a vs _ b0 hn hos =>
      cases k with
      | int i =>
        simp only at h
        obtain ⟨j, hj, ho⟩ := Option.bind_eq_some_iff.mp h
        obtain ⟨w, F1, hw, s1, back⟩ := SX.focusAt (G := fun o' => .tup (os.set j o')) ⟨b0, b2, hos, hits, n, al⟩ e mm ho (fun Hf' o' b' q => .tup (by rw [List.length_set]; exact hn) q)
        have ey := rp_int r
        subst ey
        refine ⟨w, F1, fun Q q => ?_, s1, fun Hf' H' its' o' F' sm s' => ?_⟩
        · refine .inl (.inr (.inl ⟨a, vs, i, w, rfl, rfl, SqT.of (al _ (List.mem_append_left _ (List.mem_append_left _ List.mem_cons_self))).1, ?_, q⟩))
          unfold atI
          rw [hos.len, hj]
          exact hw
        · have := back Hf' H' its' o' F' sm s'
          show SX K Hf' ((V.ref a, putO (.tup os) (.int i) o') :: its') F' H'
          unfold putO
          simp only [hj]
          exact this
      | _ => cases h
    | @tup3 a vs _ b0 its0 t3 hn hos =>
      cases k with
      | int i =>
        simp only at h
        obtain ⟨j, hj, ho⟩ := Option.bind_eq_some_iff.mp h
        obtain ⟨w, F1, hw, s1, back⟩ := SX.focusAt (G := fun o' => .tup (os.set j o')) ⟨b0, b2, hos, hits, n, al⟩ e mm ho (fun Hf' o' b' q => .tup3 t3 (by rw [List.length_set]; exact hn) q)
        have ey := rp_int r
        subst ey
        refine ⟨w, F1, fun Q q => ?_, s1, fun Hf' H' its' o' F' sm s' => ?_⟩
        · refine .inl (.inr (.inl ⟨a, vs, i, w, rfl, rfl, (.inl (.inr ⟨_, (al _ (List.mem_append_left _ (List.mem_append_left _ List.mem_cons_self))).1⟩)), ?_, q⟩))
          unfold atI
          rw [hos.len, hj]
          exact hw
        · have := back Hf' H' its' o' F' sm s'
          show SX K Hf' ((V.ref a, putO (.tup os) (.int i) o') :: its') F' H'
          unfold putO
          simp only [hj]
          exact this
      | _ => cases h
  | lst os =>
    cases hv with
    | @lst a vs _ b0 hos =>
    cases k with
    | int i =>
      simp only at h
      obtain ⟨j, hj, ho⟩ := Option.bind_eq_some_iff.mp h
      obtain ⟨w, F1, hw, s1, back⟩ := SX.focusAt (G := fun o' => .lst (os.set j o')) ⟨b0, b2, hos, hits, n, al⟩ e mm ho (fun Hf' o' b' q => .lst q)
      have ey := rp_int r
      subst ey
      refine ⟨w, F1, fun Q q => ?_, s1, fun Hf' H' its' o' F' sm s' => ?_⟩
      · refine .inl (.inl ⟨a, vs, i, w, rfl, rfl, SqL.of (al _ (List.mem_append_left _ (List.mem_append_left _ List.mem_cons_self))).1, ?_, q⟩)
        unfold atI
        rw [hos.len, hj]
        exact hw
      · have := back Hf' H' its' o' F' sm s'
        show SX K Hf' ((V.ref a, putO (.lst os) (.int i) o') :: its') F' H'
        unfold putO
        simp only [hj]
        exact this
    | _ => cases h
  | dk kvs =>
    cases hv with
    | @dk a ks vs os b0 l nd hos =>
    simp only at h
    split at h
    · rename_i key hk
      obtain ⟨j, hj1, hj2, hf⟩ := find_at key nd h
      have ek := asDK_inl hk
      subst ek
      have ey := rp_key r
      subst ey
      obtain ⟨w, F1, hw, s1, back⟩ := SX.focusAt (G := fun o' => .dk (ks.zip (os.set j o'))) ⟨b0, b2, hos, hits, n, al⟩ e mm hj2 (fun Hf' o' b' q => .dk l nd q)
      refine ⟨w, F1, fun Q q => ?_, s1, fun Hf' H' its' o' F' sm s' => ?_⟩
      · refine .inr ⟨a, w, rfl, .inl ⟨_, key, .inl (al _ (List.mem_append_left _ (List.mem_append_left _ List.mem_cons_self))).1, rfl, ?_⟩, q⟩
        have := (hf vs w (by rw [hos.len])).2 (by rw [l, hos.len])
        unfold valV
        rw [this, hw]
      · have := back Hf' H' its' o' F' sm s'
        show SX K Hf' ((V.ref a, putO (.dk (ks.zip os)) (kD key) o') :: its') F' H'
        unfold putO
        simp only [asDK_kD]
        rw [(hf os o' rfl).1]
        exact this
    · cases h
  | dt kvs =>
    cases hv with
    | @dt a ks vs os b0 l nd hos =>
    simp only at h
    split at h
    · rename_i key hk
      split at h
      · rename_i hfine
        obtain ⟨j, hj1, hj2, hf⟩ := find_at key nd h
        have ek := asDK_inr hk
        subst ek
        obtain ⟨b, rfl, hb⟩ := rp_keyT r hfine
        obtain ⟨w, F1, hw, s1, back⟩ := SX.focusAt (G := fun o' => .dt (ks.zip (os.set j o'))) ⟨b0, b2, hos, hits, n, al⟩ e mm hj2 (fun Hf' o' b' q => .dt l nd q)
        refine ⟨w, F1, fun Q q => ?_, s1, fun Hf' H' its' o' F' sm s' => ?_⟩
        · refine .inr ⟨a, w, rfl, .inr ⟨_, key, b, .inl (al _ (List.mem_append_left _ (List.mem_append_left _ List.mem_cons_self))).1, rfl, hb, ?_⟩, q⟩
          have := (hf vs w (by rw [hos.len])).2 (by rw [l, hos.len])
          unfold valV
          rw [this, hw]
        · have := back Hf' H' its' o' F' sm s'
          show SX K Hf' ((V.ref a, putO (.dt (ks.zip os)) (ktD key) o') :: its') F' H'
          unfold putO
          simp only [asDK_ktD]
          rw [(hf os o' rfl).1]
          exact this
      · cases h
    · cases h
theorem SI.focus {T : Its} {ρ : Rho} {F : Bs} {σ : St} (s : SI K Hf ((v, c) :: T) ρ F σ H) (r : Rp K (Hf.on H) y k) (h : subO c k = some o) :
    ∃ (w : V) (F1 : Bs), (∀ Q : VK, Q w H → rSub K v y H Q) ∧ SI K Hf ((w, o) :: T) ρ (F1 ++ F) σ H ∧ ∀ Hf' H' T' ρ' σ' o', Same Hf Hf' → SI K Hf' ((w, o') :: T') ρ' (F1 ++ F) σ' H' → SI K Hf' ((v, putO c k o') :: T') ρ' F σ' H' := by
  obtain ⟨its, sb, hs, t, s1⟩ := s.ex
  obtain ⟨w, F1, rd, s2, back⟩ := SX.focus (its := T ++ its) s1 r h
  refine ⟨w, F1, rd, ⟨its, sb, hs, t, ?_⟩, fun Hf' H' T' ρ' σ' o' sm s' => ?_⟩
  · have s2 : SX K Hf ((w, o) :: (T ++ its)) (fr (F1 ++ (sb ++ F)) Hf.m) H := s2
    exact s2.frPerm (List.perm_append_comm_assoc _ _ _)
  · obtain ⟨its', sb', hs', t', s3⟩ := s'.ex
    refine ⟨its', sb', hs', t', ?_⟩
    have s3 : SX K Hf' ((w, o') :: (T' ++ its')) (fr (sb' ++ (F1 ++ F)) Hf'.m) H' := s3
    exact back Hf' H' (T' ++ its') o' (fr (sb' ++ F) Hf'.m) sm (s3.frPerm (List.perm_append_comm_assoc _ _ _))
end
def isNo (ρ : Rho) (i : Nat) : Bool := match ρ.sl[i]? with
  | some none => true
  | _ => false
def isOv (ρ : Rho) (i : Nat) : Bool := match ρ.sl[i]? with
  | some (some _) => true
  | _ => false
theorem isNo_iff {ρ : Rho} {i : Nat} (h : isNo ρ i = true) : ρ.sl[i]? = some none := by
  unfold isNo at h
  split at h
  · assumption
  · cases h
theorem isOv_iff {ρ : Rho} {i : Nat} (h : isOv ρ i = true) : ∃ o, ρ.sl[i]? = some (some o) := by
  unfold isOv at h
  split at h
  · exact ⟨_, by assumption⟩
  · cases h
def ofN (i : Nat) (c : OV) (k : PyData) (g : OV → List OV → Option (OV × OV)) (o : OV) : ReL → Re
  | .ok os ρ => match g o os with
    | some (o', res) => if isNo ρ i = true then .ok res (ρ.set i (some (putO c k o'))) else .stk
    | none => .stk
  | _ => .stk
def eMutS (i : Nat) (T : String) (g : OV → List OV → Option (OV × OV)) (fk : Rho → Re) (fl : Rho → ReL) (ρ : Rho) : Re := if isOv ρ i = true then
    bindE (fk ρ) fun k ρ1 => match ρ1.sl[i]? with
    | some (some c) => match subO c (fz k) with
      | some o => if ownT o = T then ofN i c (fz k) g o (fl (ρ1.set i none)) else .stk
      | none => .stk
    | _ => .stk
  else .stk
section
variable {X : Cx} {W : WX} {e a b c : Expr} {es : List Expr} {f fa fb fk : Rho → Re} {fl : Rho → ReL} {p p2 pos apos cpos : Pos} {n m : Nat} {x : Str} {name : Str} {T id : String} {r : V → List V → Hp → VK → Prop} {g : OV → List OV → Option (OV × OV)}
theorem ev_mutS {i : Nat} (ho : OpM X.K r g) (hT : T ≠ "") (hp : PE X (.Call (.Attribute (.Subscript a b p) name apos) (e :: es) [] cpos) (tBM X.K T r (tOp (rSub X.K) (tVar i) (tE X W fk)) (tL X W fl))) :
    EvE X W (.Call (.Attribute (.Subscript a b p) name apos) (e :: es) [] cpos) (eMutS i T g fk fl) := pe_w hp fun σ H Q ⟨Hf, T', ρ, F, s, h⟩ => by
  unfold eMutS at h
  by_cases hov : isOv ρ i = true
  case neg => rw [if_neg hov] at h; exact h.elim
  rw [if_pos hov] at h
  obtain ⟨o0, q0⟩ := isOv_iff hov
  obtain ⟨v, hv, _, _⟩ := s.take q0
  refine ⟨v, hv, Hf, T', ρ, F, s, PostE.bind h fun k ρ1 y H1 Hf1 sm1 s1 h1 => ?_⟩
  split at h1
  · rename_i c q1
    split at h1
    · rename_i o q2
      split at h1
      · rename_i ht
        obtain ⟨v', hv', s2, _⟩ := s1.take q1
        rw [hv] at hv'
        obtain rfl : v = v' := by injection hv' with z; injection z
        have r : Rp X.K (_ : Hg) y (fz k) := s1.rdH
        have s4 : SI X.K Hf1 ((v, c) :: T') (ρ1.set i none) F σ H1 := SI.drop (s2.perm (List.Perm.swap _ _ _))
        obtain ⟨w, F1, rd, s5, back⟩ := SI.focus s4 r q2
        refine rd _ ⟨?_, Hf1, (w, o) :: T', ρ1.set i none, F1 ++ F, s5, ?_⟩
        · obtain ⟨its, F2, s6, _⟩ := s5.ex2
          have := tyV_own (its := T' ++ its) s6 (by rw [ht]; exact hT)
          rw [ht] at this
          exact this
        · cases q3 : fl (ρ1.set i none) with
          | exc e ρ2 => rw [q3] at h1; exact h1.elim
          | stk => rw [q3] at h1; exact h1.elim
          | ok os ρ2 =>
            rw [q3] at h1
            intro vs H2 Hf2 l sm2 s6
            unfold ofN at h1
            simp only at h1
            cases q4 : g o os with
            | none => simp only [q4] at h1; exact h1.elim
            | some p =>
              obtain ⟨o', res⟩ := p
              simp only [q4] at h1
              split at h1
              · rename_i hno
                have hno := isNo_iff hno
                have hlt : i < ρ2.length := (List.getElem?_eq_some_iff.mp hno).1
                obtain ⟨its2, F3, s7, bk2⟩ := s6.ex2
                have e1 : (vs.zip os ++ (w, o) :: T') ++ its2 = vs.zip os ++ (w, o) :: (T' ++ its2) := by simp
                rw [e1] at s7
                have s8 : SX X.K Hf2 ((w, o) :: (vs.zip os ++ (T' ++ its2))) F3 H2 := s7.perm List.perm_middle
                refine ho Hf2 (T' ++ its2) F3 H2 w o vs os o' res Q l s8 q4 fun x H3 Hf3 sm3 s9 => h1 x H3 Hf3 (sm2.trans sm3) ?_
                have s10 : SX X.K Hf3 ((w, o') :: ((x, res) :: T' ++ its2)) F3 H3 := s9.perm (List.Perm.swap _ _ _)
                have s11 := back Hf3 H3 ((x, res) :: T') ρ2 σ o' (sm2.trans sm3) (bk2 ((w, o') :: (x, res) :: T') Hf3 H3 sm3 s10)
                have := SI.put (T := (x, res) :: T') (o := putO c (fz k) o') (v := v) (i := i) (ρ := ρ2) s11 hlt
                rw [set_same hv] at this
                exact this
              · exact h1.elim
      · exact h1.elim
    · exact h1.elim
  · exact h1.elim
end
def minAt (ls : List Nat) : Nat := argBest (fun i j => decide ((ls.getD i 0 : Int) < (ls.getD j 0 : Nat))) (ls.length - 1)
def rMinLen (K : PySem.W.Frag) : List V → Hp → VK → Prop := fun vs H Q => ∃ (a : Addr) (xs : List V) (ls : List Nat), vs = [.ref a] ∧ SqL K H a xs ∧ 0 < xs.length ∧ ls.length = xs.length ∧
  (∀ (i : Nat) v, xs[i]? = some v → ∃ p ys, v = .ref p ∧ SqL K H p ys ∧ ls.getD i 0 = ys.length) ∧ ∀ v, xs[minAt ls]? = some v → Q v H
section
variable {X : Cx} {W : WX} {e a b c : Expr} {es : List Expr} {t : TA} {p p2 pos kp : Pos} {n m : Nat}
theorem paired_at {α β : Type} {R : α → β → Prop} : ∀ {xs : List α} {ys : List β} {i : Nat} {y : β}, Paired R xs ys → ys[i]? = some y → ∃ x, xs[i]? = some x ∧ R x y
  | _, _, _, _, .nil, h => by simp at h
  | _, _, 0, _, .cons h _, e => by simp at e; subst e; exact ⟨_, rfl, h⟩
  | _, _, i + 1, _, .cons _ r, e => by
    obtain ⟨x, h1, h2⟩ := paired_at (i := i) r (by simpa using e)
    exact ⟨x, by simpa using h1, h2⟩
theorem call_minLen (hc : X.calm = true) {pins : List (Addr × Obj)} {s : Shared} {σ : St} {H : Hp} {vs : List V} {us : List Value} {Q : VK} (I : Inv X pins σ H s) (r : Vals vs us) (h : rMinLen X.K vs H Q) :
    wpAny (model X.prog X.w) X.A (call (.builtin "min") us [(Str.ofString "key", .builtin "len")]) (EP X pins σ Q) X.xe s := by
  obtain ⟨a, xs, ls, rfl, hs, hne, hll, hk, q⟩ := h
  rw [Vals.ref1 r]
  obtain ⟨its, rv, hl, hz⟩ := I.list hs
  have hlen : its.length = xs.length := rv.length.symm
  have hh : X.A.handled = none := I.ok.hd hc
  refine PySem.call_min_walkKB (PySem.W.iter_listW (A := X.A.in1) hh hl.isList fun s₂ es W st hfp hw hk2 => ?_)
  refine ⟨_, _, _, _, _, _, _, (fun s' => ∃ h' tk, s' = { s with heap := h', toks := tk } ∧ ∀ b o, s.heap.get? b = some o → h'.get? b = some o), (fun i k _ => ∃ t, k = .int (ls.getD i 0 : Nat) t), (fun i j => decide ((ls.getD i 0 : Int) < (ls.getD j 0 : Nat))), rfl, W, st, hfp, by simp only [List.size_toArray]; omega, ?_, ?_, ?_⟩
  · subst es
    refine ⟨fun s1 s' hJ m => ?_, fun i k s1 s' hV _ => hV, fun i v s1 o Q E hi hP hJ hst hS q => ?_, fun i j ki kj s1 Q E hJ hi hj q => ?_⟩
    · obtain ⟨h1, tk, rfl, hk1⟩ := hJ
      refine ⟨s'.heap, s'.toks, ?_, fun b ob eb => m.heap b ob (fun hb => ?_) (hk1 b ob eb)⟩
      · obtain ⟨hp, g, d, tk', os⟩ := s'
        have h1 : g = s.gens := m.gens
        have h2 : d = s.drawn := m.drawn
        have h3 : os = s.os := m.os
        subst h1
        subst h2
        subst h3
        rfl
      · have hlt := Heap.lt_size eb
        rcases List.mem_cons.mp hb with e | hb
        · have : b = (s.heap.objs.size + 1) := by rw [e]; exact Heap.size_push _ _
          rw [this] at hlt
          exact Nat.lt_irrefl _ (Nat.lt_of_succ_lt hlt)
        · have := List.mem_singleton.mp hb
          exact Nat.lt_irrefl _ (this ▸ hlt)
    · obtain ⟨h1, tk, rfl, hk1⟩ := hJ
      have hP' : its[i]? = some v := by simpa using hP
      obtain ⟨x, hx, rx⟩ := paired_at rv hP'
      obtain ⟨pp, ys, rfl, hq, hly⟩ := hk i x hx
      cases rx
      obtain ⟨jts, r', pl, hz'⟩ := I.list hq
      have hlen2 := r'.length
      have pl1 : h1.IsList pp jts.toArray := by
        obtain ⟨o1, e1, e2⟩ := pl.isList
        exact ⟨o1, hk1 _ _ e1, e2⟩
      have hn := line63
      refine Calls.call_len_list pl1 (by simp only [List.size_toArray] <;> omega) (q _ _ ⟨h1, _, rfl, hk1⟩ ?_ hS ⟨_, by rw [hly, List.size_toArray, hlen2]⟩ fun j k' hv => hv)
      exact hst
    · obtain ⟨t1, rfl⟩ := hi
      obtain ⟨t2, rfl⟩ := hj
      exact CmpOf.ints_lt (P := fun i v => ∃ t, v = .int (ls.getD i 0 : Nat) t) (fun i => ((ls.getD i 0 : Nat) : Int)) (fun i v h => h) i j _ _ _ _ _ ⟨t1, rfl⟩ ⟨t2, rfl⟩ q
  · exact ⟨s₂.heap, s₂.toks, by subst es; rfl, hk2⟩
  · intro v s' hP hJ
    obtain ⟨h', tk, rfl, hk'⟩ := hJ
    have e1 : its.toArray.size - 1 = ls.length - 1 := by simp only [List.size_toArray]; omega
    rw [e1] at hP
    have hP' : its[minAt ls]? = some v := by simpa [minAt] using hP
    obtain ⟨x, hx, rx⟩ := paired_at rv hP'
    exact ⟨x, H, I.kept hk', rx, q x hx⟩
theorem pe_minLen (hc : X.calm = true) (hg1 : Gl X "min") (hm1 : X.mg "min" = none) (hg2 : Gl X "len") (hm2 : X.mg "len" = none) (ha : PA X [e] t)
    (he : backTo pos (starEach [e] X.env) = (false, eval e X.env) :: backTo pos (starEach [] X.env) := by rfl) (hpl : (backTo pos (starEach [e] X.env)).any (·.1) = false := by rfl) :
    PE X (.Call (.Name "min" p) [e] [⟨some "key", .Name "len" p2, kp⟩] pos) (fun σ H Q => t σ H fun vs H1 => rMinLen X.K vs H1 Q) := by
  refine ⟨fun pins s σ H Q I h => ?_⟩
  refine wpAny_Call_Name_kw (ld_blt I hg1 hm1 (by decide +kernel : bootBuiltins "min" = some (.builtin "min")) ?_ (by decide) (by decide))
  refine PyProof.Rows.callWith_kw (thn (ha.run pos pins s σ H _ I h) fun us s1 ⟨vs, H1, I1, r1, q1⟩ => ?_) he hpl (by rfl) (by rfl)
  show wpAny _ _ (evalAll ((do let v ← eval (.Name "len" p2) X.env; standAt pos; pure v) :: (backToKw pos (keywordEach [] X.env)).map (·.2))) _ _ s1
  refine wpAny_evalAll_cons (wpAny_bind (ld_blt I1 hg2 hm2 (by decide +kernel : bootBuiltins "len" = some (.builtin "len")) (wpAny_bind (wpAny_standAt (wpAny_pure ?_))) (by decide) (by decide)))
  exact wpAny_evalAll_nil (call_minLen hc I1 r1 q1)
def lensOf : List PyData → Option (List Nat)
  | [] => some []
  | .list xs :: ds => (lensOf ds).map (xs.length :: ·)
  | _ => none
def dMinLen : PyData → Option OV
  | .list ds => match lensOf ds with
    | some ls => if 0 < ds.length then (ds[minAt ls]?).map .sh else none
    | none => none
  | _ => none
end
section
variable {X : Cx} {W : WX} {e a b c : Expr} {es : List Expr} {f fa fb fk : Rho → Re} {fl : Rho → ReL} {pos apos cpos p : Pos} {n m k : Nat} {x : Str} {name : Str} {T id : String} {r : V → List V → Hp → VK → Prop} {g : OV → List OV → Option (OV × OV)}
theorem ev_mt {i : Nat} (ho : OpM X.K r g) (hT : T ≠ "") (hp : PE X (.Call (.Attribute b name apos) (e :: es) [] cpos) (tBM X.K T r (tVar i) (tL X W fl))) : EvE X W (.Call (.Attribute b name apos) (e :: es) [] cpos) (eMut i T g fl) := pe_w hp fun σ H Q ⟨Hf, T', ρ, F, s, h⟩ => by
  unfold eMut at h
  cases q : ρ.sl[i]? with
  | none => rw [q] at h; exact h.elim
  | some y =>
    cases y with
    | none => rw [q] at h; exact h.elim
    | some o =>
      simp only [q] at h
      by_cases ht : ownT o = T
      · rw [if_pos ht] at h
        obtain ⟨v, hv, s1, _⟩ := s.take q
        obtain ⟨its, F2, s2, bk⟩ := s1.ex2
        refine ⟨v, hv, ?_, Hf, T', ρ, F, s, PostL.bind h fun os ρ1 vs H1 Hf1 l sm s3 h1 => mut_post ho hv l s3 h1⟩
        have := tyV_own (its := T' ++ its) s2 (by rw [ht]; exact hT)
        rw [ht] at this
        exact this
      · rw [if_neg ht] at h; exact h.elim
theorem ixAll (G : Good X W n) : IxR X (rSub X.K) := ix_seq.or (ix_dict (by have := G.hu; omega))
theorem Good.nd' {X : Cx} {W : WX} {n : Nat} (G : Good X W n) : X.N.Nodup := G.nd
end
abbrev eSub := eBin (gII (fun _ _ => true) fun i j => .int (i - j))
abbrev eMul := eBin (gII mulOk fun i j => .int (i * j))
abbrev eMod := eBin (gII (fun _ j => decide (0 < j)) fun i j => .int (i % j))
abbrev eFdiv := eBin (gII divOk fun i j => .int (i / j))
abbrev ePow := eBin (gII powOk fun i j => .int (i ^ j.toNat))
section
variable {P : Program} {w : World} {K : PySem.W.Frag} {mg : Str → Option Value} {base : Heap} {x qual : Str} {ag : Arguments} {bd : List Stmt} {sco : Scope} {f : Addr} {fd : FuncData}
theorem fnOk_of {N ps : List Str} {k n : Nat} {g : Rho → Out} (F : FunD K x qual ag bd sco [] [] f fd) (S : FnScope N ps sco) (hn : ps.length = n)
    (der : ∀ (cdv : Value) (A : Around) (outer : List Env) (s : Shared) (H : Hp) (E : XK), Good (cxOf (L2.CX P w) P w K mg base N qual sco f cdv A outer s H E) (fun cls d _ H => E cls d H) k →
      EvB (cxOf (L2.CX P w) P w K mg base N qual sco f cdv A outer s H E) (fun cls d _ H => E cls d H) bd g) :
    FnOk P w K mg base (L2.CX P w) (k + 1) f fd ps (spP K mg n (runP N.length g)) := by
  refine F.ok S (fun vs H Q E h => ?_) fun cdv A outer s H vs Q E hr h => ?_
  · obtain ⟨_, _, _, _, _, l, _⟩ := h
    exact l.trans hn.symm
  · obtain ⟨Hf, ds, st, sb, Fr, l, r, t, sx, h⟩ := h
    have gd := der cdv A outer s H E ⟨S.nd, rfl, takes_of rfl rfl rfl rfl, passes_of rfl, hr⟩
    have sl := slots_start (N.length - ds.length) r.len
    refine ⟨_, gd, Hf, ⟨ds.map (fun d => some (.sh d)) ++ List.replicate (N.length - ds.length) none, st⟩, Fr, ⟨vs.zip (ds.map .sh), sb, ?_, t, sx.addAll r⟩, ?_⟩
    · unfold L2.start
      rw [r.len]
      exact sl
    · unfold runP at h
      exact post_out h
theorem fnD_of {N ps : List Str} {k n : Nat} {g : Rho → Out} (F : FunD K x qual ag bd sco [] [] f fd) (S : FnScope N ps sco) (hm : mg x = some (.ref f)) (hb : Binds K fd ps []) (hn : ps.length = n)
    (der : ∀ (cdv : Value) (A : Around) (outer : List Env) (s : Shared) (H : Hp) (E : XK), Good (cxOf (L2.CX P w) P w K mg base N qual sco f cdv A outer s H E) (fun cls d _ H => E cls d H) k →
      EvB (cxOf (L2.CX P w) P w K mg base N qual sco f cdv A outer s H E) (fun cls d _ H => E cls d H) bd g) :
    FnT P w K mg base x (k + 1) n (runP N.length g) := ⟨f, fd, ps, hm, F.kp, hb, fnOk_of F S hn der⟩
def scOk (ns : List Int) : Prop := ns.length ≤ 63 ∧ ∀ z ∈ ns, Builtin.Int.intBits z ≤ 1048576
def spTrue (K : PySem.W.Frag) : Sp := fun vs H Q _ => ∃ (a : Addr) (ns : List Int), scOk ns ∧ vs = [.ref a] ∧ SqL K H a (ns.map V.int) ∧ (∀ H', Q (.bl true) H')
theorem law_of {k : Nat} {g : List PyData → List SO → Rv} (hg : ∀ ns : List Int, scOk ns → ∃ st, g [.list (ns.map .int)] [] = .ok (.sh (.bool true)) st) (F : FnOk P w K mg base (L2.CX P w) k f fd [x] (spP K mg 1 g)) :
    FnOk P w K mg base (L2.CX P w) k f fd [x] (spTrue K) := F.imp fun vs H Q E h => by
  obtain ⟨a, ns, hn, rfl, hs, q⟩ := h
  obtain ⟨st, hg⟩ := hg ns hn
  refine ⟨⟨H, []⟩, [.list (ns.map .int)], [], [], [], rfl, .cons (.lst hs (RpAll.ints ns)) .nil, .nil, SX.nil (Hf := ⟨H, []⟩) (Ext.refl _), ?_⟩
  rw [hg]
  intro v H' Hf' sb sm _ s
  have e := s.rp
  cases e
  exact q H'
end
theorem walkE {l : PySem.W.OpenLaw} {k : Nat} {q : Program} {loose : List Str} {XP : (Str → Option Value) → Heap → Prop} {YP : World → Heap → Prop} {d : DefRec}
    (hr : Room k callerA) (hn : l.most = some 63) (hdf : d.params.defaults = [])
    (F : ∀ (w : World) (mg : Str → Option Value) (fa : Addr) (h : Heap), YP w h → mg d.name = some (.ref fa) → h.Ns mainGlobals mg →
      ∃ (K : PySem.W.Frag) (fd : FuncData), K.In h ∧ (∀ (s : Shared) (u : Value), BindsTo s fd ⟨[u], []⟩ [("script", u)]) ∧
        ∀ base : Heap, K.In base → base.Ns mainGlobals mg → FnOk l.prog w K mg base (L2.CX l.prog w) k fa fd ["script"] (spTrue K)) :
    PySem.W.WalkO q loose XP YP l.row.toRowW d [] (fun f vs => PySem.call f vs) := by
  refine Att.attach_callB hn hdf ?_
  intro w _ s1 mg _ fa _ _ _ _ a _ ns G Y _ _ _ hmg hobj hints hlen hbits hg
  obtain ⟨K, fd, hK, hb, hF⟩ := F w mg fa _ Y hmg G.T.g
  have h63 : ns.length ≤ sizeLine := Nat.le_trans hlen (by decide)
  refine law_call hK G.T.g G.T.b G.T.builtins G.T.nolimit hg hobj hints h63 hr hF hb ?_ ?_
  · exact fun H _ hS => ⟨a, ns, ⟨hlen, hbits⟩, rfl, hS, fun _ => rfl⟩
  · intro H e s' z
    obtain ⟨_, _, _, _, _, _, _, _, _, _, _, _, z⟩ := z
    exact z
section
variable {ρ ρ1 ρ2 : Rho} {f fa fb fc : Rho → Re} {g g' : OV → OV → Option OV} {o : OV} {i j : Int} {d e : PyData}
theorem gAdd_int : gAdd (.sh (.int i)) (.sh (.int j)) = some (.sh (.int (i + j))) := rfl
theorem gII_int {C : Int → Int → Bool} {h : Int → Int → PyData} : gII C h (.sh (.int i)) (.sh (.int j)) = if C i j = true then some (.sh (h i j)) else none := rfl
theorem gII_ok {C : Int → Int → Bool} {h : Int → Int → PyData} (hc : C i j = true) : gII C h (.sh (.int i)) (.sh (.int j)) = some (.sh (h i j)) := by rw [gII_int, if_pos hc]
theorem gI_int {h : Int → PyData} : gI h (.sh (.int i)) = some (.sh (h i)) := rfl
theorem gOrd_int {fi : Int → Int → Bool} {fd : PyData → PyData → Bool} : gOrd fi fd (.sh (.int i)) (.sh (.int j)) = some (.sh (.bool (fi i j))) := rfl
theorem shaped_int : SeqAt.shaped (.int i) = true := by simp [SeqAt.shaped, PyData.canLay0, PyData.depth]
theorem shaped_str {x : Str} : SeqAt.shaped (.str x) = PyData.strOk x := by simp [SeqAt.shaped, PyData.canLay0, PyData.depth]
theorem shaped_bool {x : Bool} : SeqAt.shaped (.bool x) = true := by simp [SeqAt.shaped, PyData.canLay0, PyData.depth]
theorem eqv_int : PyData.eqv (.int i) (.int j) = decide (i = j) := by rw [PyData.eqv]; rfl
theorem eqv_str {x y : Str} : PyData.eqv (.str x) (.str y) = decide (x = y) := by rw [PyData.eqv]; rfl
theorem gEq_int {neg : Bool} : gEq neg (.sh (.int i)) (.sh (.int j)) = some (.sh (.bool (neg ^^ decide (i = j)))) := by simp [gEq, fz, shaped_int, eqv_int]
theorem gEq_str {neg : Bool} {x y : Str} (hx : PyData.strOk x = true) (hy : PyData.strOk y = true) : gEq neg (.sh (.str x)) (.sh (.str y)) = some (.sh (.bool (neg ^^ decide (x = y)))) := by simp [gEq, fz, shaped_str, eqv_str, hx, hy]
theorem mulOk_l (h : -(2 ^ 64) < i ∧ i < 2 ^ 64) : mulOk i j = true := by unfold mulOk; rw [decide_eq_true h]; rfl
theorem mulOk_r (h : -(2 ^ 64) < j ∧ j < 2 ^ 64) : mulOk i j = true := by unfold mulOk; rw [decide_eq_true h]; simp
theorem log2_lt {n m : Nat} (h : n < 2 ^ m) (hm : 0 < m) : n.log2 < m := by
  by_cases e : n = 0
  · subst e; simpa using hm
  · exact (Nat.log2_lt e).mpr h
theorem mulOk_n {n m : Nat} (h1 : i.natAbs < 2 ^ n) (h2 : j.natAbs < 2 ^ m) (hn : 0 < n) (hm : 0 < m) (hs : n + m < 1000000) : mulOk i j = true := by
  unfold mulOk
  have a := log2_lt h1 hn
  have b := log2_lt h2 hm
  have : decide (i.natAbs.log2 + j.natAbs.log2 < 1000000) = true := decide_eq_true (by omega)
  rw [this, Bool.or_true]
theorem powOk_n {n : Nat} {k : Nat} (h1 : i.natAbs < 2 ^ n) (hs : n * k ≤ 2 ^ 27) : powOk i (k : Nat) = true := by
  unfold powOk
  have a : Builtin.Int.intBits i ≤ n := PySem.intBits_le_iff.mpr h1
  have b : Builtin.Int.intBits i * k ≤ n * k := Nat.mul_le_mul_right k a
  rw [Bool.and_eq_true]
  refine ⟨decide_eq_true (by omega), decide_eq_true ?_⟩
  have : ((Builtin.Int.intBits i * k : Nat) : Int) ≤ ((2 ^ 27 : Nat) : Int) := by exact_mod_cast Nat.le_trans b hs
  simpa using this
theorem divOk_n {n : Nat} (h0 : 0 < j) (h1 : j.natAbs < 2 ^ n) (hn : 0 < n) (hs : n ≤ 9000) : divOk i j = true := by
  unfold divOk
  have := log2_lt h1 hn
  rw [decide_eq_true h0, decide_eq_true (by omega : j.natAbs.log2 < 9000)]; rfl
end
theorem rngOk_of {i : Int} (h : -1000000000 ≤ i) (h2 : i ≤ 1000000000) : rngOk i = true := by
  unfold rngOk
  have a : (2 : Int) ^ 62 = 4611686018427387904 := by decide
  rw [a]
  exact decide_eq_true (by omega)
theorem sz_le {n : Nat} (h : n ≤ 63) : (n ≤ sizeLine) = True := eq_true (Nat.le_trans h (by decide))
theorem sz_lt {n : Nat} (h : n ≤ 63) : (n < sizeLine) = True := eq_true (Nat.lt_of_le_of_lt h (by decide))
theorem nrfl {α : Type} {a b : α} (h : a = b) : a = b := by
  cases h
  exact Eq.symm (Eq.refl a)
section
variable {ρ ρ1 ρ2 : Rho} {o : OV} {os : List OV} {b : Bool} {x : Exn} {ds : List PyData}
theorem gNot_b : gNot (.sh (.bool b)) = some (.sh (.bool (!b))) := nrfl rfl
theorem ownT_lst : ownT (.lst os) = "list" := nrfl rfl
theorem mApp_ok (h : os.length < sizeLine) : mApp (.lst os) [o] = some (.lst (os ++ [o]), .sh .none) := by
  simp only [mApp]
  rw [if_pos h]
theorem dLen_list : dLen (.list ds) = some (.sh (.int ds.length)) := nrfl rfl
theorem dLen_tup : dLen (.tuple ds) = some (.sh (.int ds.length)) := nrfl rfl
theorem gSub_list {i : Int} : gSub (.sh (.list ds)) (.sh (.int i)) = (atI ds i).map .sh := by rw [gSub, fz, fz]
theorem gSub_tup {i : Int} : gSub (.sh (.tuple ds)) (.sh (.int i)) = (atI ds i).map .sh := by rw [gSub, fz, fz]
theorem ixN_of {n j : Nat} (h : j < n) : ixN n (j : Int) = some j := by
  have a : (0 : Int) ≤ j := by omega
  have b : (j : Int) < n := by omega
  unfold ixN
  rw [if_pos a, if_pos b, Int.toNat_natCast]
theorem fz_lst {xs : List OV} : fz (.lst xs) = .list (xs.map fz) := by rw [fz, fzs_eq]
theorem map_sh_fz {ds : List PyData} : (ds.map OV.sh).map fz = ds := by
  rw [List.map_map]
  conv => rhs; rw [← List.map_id ds]
  refine List.map_congr_left fun d _ => ?_
  show fz (.sh d) = d
  rw [fz]
theorem gSub_lst {xs : List OV} {i : Int} : gSub (.lst xs) (.sh (.int i)) = (atI (xs.map fz) i).map .sh := by rw [gSub, fz_lst, fz]
theorem gMax_two {two : Int → Int → Int} {many : List Int → Int} {i j : Int} : gMax two many [.sh (.int i), .sh (.int j)] = some (.sh (.int (two i j))) := by
  unfold gMax
  simp only [fz]
theorem fz_sh {d : PyData} : fz (.sh d) = d := by rw [fz]
end
section
variable {α : Type} {a b c d e f g : α} {xs : List α}
theorem atI_l0 : atI (a :: xs) 0 = some a := atI_nat (j := 0) rfl
theorem atI_l1 : atI (a :: b :: xs) 1 = some b := atI_nat (j := 1) rfl
theorem atI_l2 : atI (a :: b :: c :: xs) 2 = some c := atI_nat (j := 2) rfl
theorem atI_l3 : atI (a :: b :: c :: d :: xs) 3 = some d := atI_nat (j := 3) rfl
theorem atI_l4 : atI (a :: b :: c :: d :: e :: xs) 4 = some e := atI_nat (j := 4) rfl
theorem atI_l5 : atI (a :: b :: c :: d :: e :: f :: xs) 5 = some f := atI_nat (j := 5) rfl
theorem atI_l6 : atI (a :: b :: c :: d :: e :: f :: g :: xs) 6 = some g := atI_nat (j := 6) rfl
end
def stirN (cell k : Int) : Int := ((cell % 10 ^ 60 + 7919 * k + 1) * 27182818284590452353602874713527) % 170141183460469231731687303715884105727
def stir (cell k : Int) : Int := ((stirN cell k) ^ 5 + 48271 * k) ^ 3 % 162259276829213363391578010288127 / 7
def Drawn (xs sizes : List Int) : Prop := xs.length = sizes.length ∧ ∀ (k : Nat) (x s : Int), xs[k]? = some x → sizes[k]? = some s → 0 ≤ x ∧ x < s
theorem cutD_map {α β : Type} (f : α → β) (xs : List α) (lo hi : Option Int) : cutD (xs.map f) lo hi = (cutD xs lo hi).map f := by
  unfold cutD
  rw [List.length_map, List.map_take, List.map_drop]
theorem cutD_len {α : Type} (xs : List α) (lo hi : Option Int) : (cutD xs lo hi).length ≤ xs.length := by
  unfold cutD
  rw [List.length_take, List.length_drop]
  omega
theorem gAdd_lst {xs ys : List OV} (h : xs.length + ys.length ≤ sizeLine) : gAdd (.lst xs) (.lst ys) = some (.lst ((xs.map fz ++ ys.map fz).map .sh)) := by
  unfold gAdd
  rw [fz_lst, fz_lst]
  simp only [List.length_map, h, if_true]
def blV (b : Bool) : OV → Bool
  | .sh (.bool c) => c == b
  | _ => false
def rIsB (neg : Bool) : R2 := fun x y H Q => ∃ b, y = .bl b ∧ Q (.bl (neg ^^ decide (x = .bl b))) H
section
variable {X : Cx} {W : WX} {e a b c : Expr} {es : List Expr} {f fa fb fk : Rho → Re} {fl : Rho → ReL} {pos apos cpos p : Pos} {n m k : Nat} {x : Str}
theorem is_bl {x : V} {v : Value} {b : Bool} (rx : RelV x v) : plainIs v (.bool b) = true ∧ (v == Value.bool b) = decide (x = .bl b) := by
  cases x with
  | bl c => cases rx; exact ⟨rfl, by cases b <;> cases c <;> rfl⟩
  | non => cases rx; exact ⟨rfl, rfl⟩
  | ref a => cases rx; exact ⟨rfl, rfl⟩
  | ty n => cases rx; exact ⟨rfl, rfl⟩
  | int i => obtain ⟨t, rfl⟩ := rx; exact ⟨rfl, rfl⟩
  | str i => obtain ⟨t, rfl⟩ := rx; exact ⟨rfl, rfl⟩
  | byt i => obtain ⟨t, rfl⟩ := rx; exact ⟨rfl, rfl⟩
  | flt i => obtain ⟨t, rfl⟩ := rx; exact ⟨rfl, rfl⟩
theorem op_isntB : OpR X (compareOp .IsNot) (rIsB true) := by
  intro pins s σ H x y v u Q I rx ry ⟨b, ey, q⟩
  subst ey
  cases ry
  obtain ⟨h1, h2⟩ := is_bl (b := b) rx
  show wpAny _ _ ((isSame v (Value.bool b)) >>= fun z => pure (Value.bool (!z))) _ _ s
  exact wpAny_bind (PySem.wpAny_isSame_plain h1 (wpAny_pure (fin_bl I q (by rw [h2, Bool.true_xor]))))
def gIsB (neg : Bool) (a b : OV) : Option OV := match b with
  | .sh (.bool c) => some (.sh (.bool (neg ^^ blV c a)))
  | _ => none
theorem op2_isB {K : PySem.W.Frag} {neg : Bool} : Op2 K (rIsB neg) (gIsB neg) := by
  intro Hf its F H x y a b c Q s h q
  unfold gIsB at h
  split at h
  · rename_i c0
    cases h
    have e := rp_bl s.rp
    subst e
    obtain ⟨bs, ho⟩ := SX.own s.drop
    have e2 : decide (x = .bl c0) = blV c0 a := by
      cases ho with
      | sh r =>
        cases r <;> first
          | rfl
          | (rename_i z; cases z <;> cases c0 <;> rfl)
      | lst _ => rfl
      | dk _ _ _ => rfl
      | dt _ _ _ => rfl
      | tup _ _ => rfl
      | tup3 _ _ _ => rfl
    refine ⟨c0, rfl, q _ _ _ (Same.refl _) (s.drop.drop.add ?_)⟩
    rw [e2]; exact .bl _
  · cases h
theorem ec_isntB (ha : EvE X W a fa) (hb : EvE X W b fb) : EvC X W .IsNot a b (eBin (gIsB true) fa fb) := ec_op op_isntB op2_isB ha hb
def OpP (K : PySem.W.Frag) (r : R2) (g : PyData → PyData → Option PyData) : Prop :=
  ∀ (H : Hg) (x y : V) (d e c : PyData) (Q : VK), Rp K H x d → Rp K H y e → g d e = some c → (∀ v, (∀ H', Rp K H' v c) → Q v H.h) → r x y H.h Q
def gEqP (neg : Bool) (d e : PyData) : Option PyData := if SeqAt.shaped d = true ∧ SeqAt.shaped e = true then some (.bool (neg ^^ PyData.eqv d e)) else none
def ofP (o : Option PyData) (ρ : Rho) : Re := match o with
  | some c => .ok (.sh c) ρ
  | none => .stk
def eBR (g : PyData → PyData → Option PyData) (fa : Rho → Re) (i : Nat) (ρ : Rho) : Re := bindE (fa ρ) fun a ρ1 => match ρ1.sl[i]? with
  | some (some o) => ofP (g (fz a) (fz o)) ρ1
  | _ => .stk
theorem br_post {r : R2} {g : PyData → PyData → Option PyData} (ho : OpP X.K r g) {σ : St} {H : Hp} {Q : VK} {Hf : Hg} {T : Its} {ρ : Rho} {F : Bs} {i : Nat} (s : SI X.K Hf T ρ F σ H) (h : PostE X W Hf T F σ (eBR g fa i ρ) Q) : tOp r (tE X W fa) (tVar i) σ H Q := by
  refine ⟨Hf, T, ρ, F, s, PostE.bind h fun a ρ1 x H1 Hf1 sm s1 h1 => ?_⟩
  cases q : ρ1.sl[i]? with
  | none => simp only [q] at h1; exact h1.elim
  | some y =>
    cases y with
    | none => simp only [q] at h1; exact h1.elim
    | some o =>
      simp only [q] at h1
      obtain ⟨v, hv, s2, _⟩ := s1.take q
      refine ⟨v, hv, ?_⟩
      have rx : Rp X.K (_ : Hg) x (fz a) := s1.rdH
      have ry : Rp X.K (_ : Hg) v (fz o) := s2.rdH
      unfold ofP at h1
      cases q2 : g (fz a) (fz o) with
      | none => simp only [q2] at h1; exact h1.elim
      | some c =>
        simp only [q2] at h1
        exact ho (Hf1.on H1) x v _ _ c Q rx ry q2 fun w hw => h1 w H1 Hf1 (Same.refl _) (s1.drop.add (hw Hf1))
theorem pc_of {op : CmpOp} {r : R2} {ta tb : TE} (hr : OpR X (compareOp op) r) (ha : PE X a ta) (hb : PE X b tb) : PC X op a b (tOp r ta tb) :=
  ⟨fun pins s σ H Q I h => binT ha hb I h fun v u s2 x y H2 I2 rx ry q => hr pins s2 σ H2 x y v u Q I2 rx ry q⟩
theorem ec_br {op : CmpOp} {r : R2} {g : PyData → PyData → Option PyData} {i : Nat} (hr : OpR X (compareOp op) r) (ho : OpP X.K r g) (ha : EvE X W a fa) (hb : PE X b (tVar i)) : EvC X W op a b (eBR g fa i) :=
  pc_w (pc_of hr ha hb) fun σ H Q ⟨Hf, T, ρ, F, s, h⟩ => br_post ho s h
end
section
variable {X : Cx} {W : WX} {e a b c : Expr} {es elts : List Expr} {f fa fb fk : Rho → Re} {fl : Rho → ReL} {pos apos cpos tpos p : Pos} {n m k kk : Nat} {x : Str}
def gInP (neg : Bool) (d e : PyData) : Option PyData := match e with
  | .list ds => if SeqAt.shaped d = true ∧ SeqAt.shaped (.list ds) = true then some (.bool (neg ^^ ds.any fun z => PyData.eqv z d)) else none
  | .tuple ds => if flatD d = true ∧ ds.all flatD = true then some (.bool (neg ^^ ds.any fun z => PyData.eqv z d)) else none
  | .dict kvs => if okK kvs d = true then some (.bool (neg ^^ (dLook kvs d).isSome)) else none
  | .str z => match d with
    | .str y => some (.bool (neg ^^ !(Builtin.Str.occurrences z y 0 z.length 1).isEmpty))
    | _ => none
  | _ => none
theorem opp_in {K : PySem.W.Frag} (neg : Bool) : OpP K (rInAll K neg) (gInP neg) := by
  intro H x y d e c Q rx ry h q
  have fin : ∀ k, c = .bool k → Q (.bl k) H.h := fun k e => by
    subst e
    exact q _ fun _ => .bl _
  unfold gInP at h
  cases e with
  | list ds =>
    simp only at h
    by_cases hc : SeqAt.shaped d = true ∧ SeqAt.shaped (.list ds) = true
    · rw [if_pos hc] at h
      cases h
      exact .inr (.inl ⟨_, _, rx.dp (SeqAt.canLay_of_shaped hc.1), ry.dp (SeqAt.canLay_of_shaped hc.2), hc.1, hc.2, fin _ rfl⟩)
    · rw [if_neg hc] at h; cases h
  | tuple ds =>
    simp only at h
    by_cases hc : flatD d = true ∧ ds.all flatD = true
    · rw [if_pos hc] at h
      cases h
      obtain ⟨p1, ys, rfl, t1, r1⟩ := ry.sqT
      obtain ⟨h1, h2⟩ := flat_all rx hc.1 r1 hc.2
      refine .inl ⟨p1, ys, rfl, .inr t1, flat_rp rx hc.1, h1, ?_⟩
      cases neg with
      | false => rw [if_neg Bool.false_ne_true, h2]; exact fin _ (by rw [Bool.false_xor])
      | true => rw [if_pos rfl, h2]; exact fin _ (by rw [Bool.true_xor])
    · rw [if_neg hc] at h; cases h
  | dict kvs =>
    simp only at h
    by_cases ok : okK kvs d = true
    · rw [if_pos ok] at h
      cases h
      obtain ⟨ad, o, rfl, hg, he, _⟩ := rp_dget ry rx ok
      exact .inr (.inr (.inl ⟨ad, o, rfl, hg, by rw [he]; exact fin _ rfl⟩))
    · rw [if_neg ok] at h; cases h
  | str z =>
    cases d with
    | str y =>
      simp only at h
      cases h
      have e1 := rp_str rx
      have e2 := rp_str ry
      subst e1 e2
      exact .inr (.inr (.inr ⟨_, _, rfl, rfl, fin _ rfl⟩))
    | _ => simp at h
  | _ => simp at h
theorem ec_inR {i : Nat} (G : Good X W n) (ha : EvE X W a fa) (hb : PE X b (tVar i)) : EvC X W .In a b (eBR (gInP false) fa i) := ec_br (opr_in G) (opp_in false) ha hb
end
section
variable {prog : Program} {w : World} {A : Around} {E : Value → Shared → Prop} {s : Shared}
abbrev gathered (h : Heap) (xs : Array Value) : Heap := (h.push { cls := .type "list", data := .seq ([] : List Value).toArray }).update h.objs.size (Obj.mapSeq (· ++ xs))
theorem gathered_old {h : Heap} {xs : Array Value} {b : Addr} {o : Obj} (e : h.get? b = some o) : (gathered h xs).get? b = some o := by
  have lt := Heap.lt_size e
  first
    | exact (Heap.get?_update_other _ _ (Nat.ne_of_gt lt)).trans (Heap.get?_push_of_some _ e)
    | exact (Heap.get?_update_ne _ _ _ _ (Nat.ne_of_lt lt)).trans (Heap.get?_push_of_some _ e)
theorem gathered_size (h : Heap) (xs : Array Value) : (gathered h xs).objs.size = h.objs.size + 1 := by
  unfold gathered
  rw [Heap.size_update, Heap.size_push]
theorem collect_at {it : Addr} {T : String} {o : Obj} {xs : Array Value} {n : Nat} {Q : List Value → Shared → Prop} (hT : T = "list" ∨ T = "tuple") (ho : s.heap.get? it = some o) (hc : o.cls = .type T) (hd : o.data = .seq xs n) (hz : xs.size ≤ sizeLine)
    (q : Q xs.toList { s with heap := gathered s.heap xs }) : wpAny (model prog w) A (collect (.ref it)) Q E s := by
  have new : (s.heap.push { cls := .type "list", data := .seq ([] : List Value).toArray }).get? s.heap.objs.size = some { cls := .type "list", data := .seq #[] 0 } := Heap.get?_push_size _ rfl
  have full : (gathered s.heap xs).get? s.heap.objs.size = some { cls := .type "list", data := .seq (#[] ++ xs) 1 } ∨ ∃ k, (gathered s.heap xs).get? s.heap.objs.size = some { cls := .type "list", data := .seq (#[] ++ xs) k } := .inr ⟨_, Heap.get?_update_self (Obj.mapSeq (· ++ xs)) new rfl⟩
  obtain ⟨k, full⟩ : ∃ k, (gathered s.heap xs).get? s.heap.objs.size = some { cls := .type "list", data := .seq (#[] ++ xs) k } := by
    rcases full with z | z
    · exact ⟨_, z⟩
    · exact z
  have last : wpAny (model prog w) A (load s.heap.objs.size >>= fun ob => match ob.data with | Data.seq ys _ => pure ys.toList | _ => unsupported "internal:collect") Q E { s with heap := gathered s.heap xs } :=
    wpAny_bind (wpAny_load full (wpAny_pure (by rw [show ((#[] : Array Value) ++ xs).toList = xs.toList from by simp]; exact q)))
  have ext := PySem.wpAny_extend_seq (prog := prog) (w := w) (hsz := hz) (A := A) (R := fun r s' => r = .ok (.ret (.ref s.heap.objs.size)) ∧ s' = { s with heap := gathered s.heap xs }) (s := { s with heap := s.heap.push { cls := .type "list", data := .seq ([] : List Value).toArray } }) s.heap.objs.size it (.ref s.heap.objs.size) 0 hT new (Heap.get?_push_of_some _ ho) hc hd ⟨rfl, rfl⟩
  unfold collect
  refine wpAny_bind (wpAny_runValue ?_); refine codeAny_builtin F.entry_proto_collect ?_
  rw [Around.under_plainId F.plain_proto_collect _]; show wpAny _ _ (newList [] >>= _) _ _ _
  refine wpAny_bind (wpAny_newObj_type ?_); refine wpAny_pure ⟨plainId_quiet F.plain_list_iadd _, ?_⟩
  refine codeAny_builtin F.entry_list_iadd ?_; rw [Around.under_plainId F.plain_list_iadd _]
  refine wpAny_mono ext (fun fin s' z => ?_) fun e s' z => absurd z.1 (by simp)
  cases fin with
  | done f => obtain ⟨z1, rfl⟩ := z; cases z1; exact last
  | again c' => exact ⟨z.1, codeAny_mono z.2 fun r s'' hr => by obtain ⟨rfl, rfl⟩ := hr; exact last⟩
open PySem.W in
theorem sorted_seq {β : Type} {l : Addr} {T : String} {o : Obj} {items : Array Value} {n : Nat} {bs : List β} {enc : β → PyData} {R : Value → β → Prop} {Q : Value → Shared → Prop} (hT : T = "list" ∨ T = "tuple") (ho : s.heap.get? l = some o) (hc : o.cls = .type T) (hd : o.data = .seq items n)
    (e : EachIs R items.toList bs) (er : EachIs (fun v b => ∃ as, Reads s.heap v (enc b) as) items.toList bs) (hal : AllAlike (bs.map enc)) (hk : Sortable (bs.map enc)) (hL : bs.length ≤ sizeLine) (hu : ∀ b, b ∈ bs → A.units + 2 + (enc b).depth < cLine)
    (h : ∀ (h' : Heap) (a : Addr) (out : List Value) (c : Nat), s.heap.objs.size ≤ a → (∀ b o, s.heap.get? b = some o → h'.get? b = some o) → h'.get? a = some (seqObj "list" out.toArray c) → out.length = bs.length → EachIs R out (bs.mergeSort (dataLe false enc)) → Q (.ref a) { s with heap := h' }) :
    wpAny (model prog w) A (call (.builtin "sorted") [.ref l]) Q E s := by
  have hlen : items.toList.length = bs.length := e.length
  have hsz : items.size ≤ sizeLine := by
    have : items.toList.length = items.size := by simp
    omega
  refine call_function_entry_kw kind_sorted plain_sorted entry_sorted (args_sorted1 _) ?_
  unfold Builtin.«sorted»
  refine wpAny_bind (m := checkCount "sorted" 1 1 _) (wpAny_pure ?_)
  refine wpAny_bind (collect_at hT ho hc hd hsz ?_)
  refine wpAny_bind (wpAny_newList ?_ (by rw [hlen]; exact hL))
  have ze := gathered_size s.heap items
  have k1 : ∀ b o, s.heap.get? b = some o → (gathered s.heap items).get? b = some o := fun b o q => gathered_old q
  generalize gathered s.heap items = h1 at ze k1 ⊢
  have ho2 : (h1.push { cls := .type "list", data := .seq items.toList.toArray }).get? h1.objs.size = some (seqObj "list" items.toList.toArray 0) := Heap.get?_push_size _ rfl
  have k2 : ∀ b o, s.heap.get? b = some o → (h1.push { cls := .type "list", data := .seq items.toList.toArray }).get? b = some o := fun b o q => Heap.get?_push_of_some _ (k1 b o q)
  have le : s.heap.objs.size ≤ h1.objs.size := by rw [ze]; exact Nat.le_succ _
  have ne : ∀ b o, s.heap.get? b = some o → b ≠ h1.objs.size := fun b o q => Nat.ne_of_lt (Nat.lt_of_lt_of_le (Heap.lt_size q) le)
  generalize hh2 : h1.push { cls := .type "list", data := .seq items.toList.toArray } = h2 at ho2 k2 ⊢
  have er' : EachIs (fun v b => ∃ as, Reads (sortingHeap h2 h1.objs.size items.toList) v (enc b) as) items.toList bs := er.mono fun _ _ ⟨as, r⟩ => ⟨as, PyProof.Rows.Reads.keeps (fun b o q => sortingHeap_old (ne b o q) (k2 b o q)) r⟩
  refine wpAny_bind (wpAny_holding (wpAny_call_entry_kw slot_list_sort ⟨_, ho2, rfl⟩ entry_list_sort ?_ (args_list_sort _)))
  refine list_sort_vals (κ := dataKind (sortingHeap h2 h1.objs.size items.toList) (bs.map enc)) (s := { s with heap := h2 }) ho2 (SortsAt.data (s := { s with heap := sortingHeap h2 h1.objs.size items.toList }) (each_map (R := fun v d => ∃ as, Reads (sortingHeap h2 h1.objs.size items.toList) v d as) enc er') hal hk (bound_map hu)) (by rw [hlen]; exact hL) ⟨_, rfl, wpAny_pure ⟨_, rfl, ?_⟩⟩
  obtain ⟨c, hc2⟩ := sortedHeap_at (out := (sortVals (dataKind (sortingHeap h2 h1.objs.size items.toList) (bs.map enc)) false items.toList items.toList).toArray) ho2
  exact h _ _ _ c le (fun b o q => by rw [sortedHeap_old (ne b o q) (Heap.lt_size (k2 b o q))]; exact k2 b o q) hc2 (by rw [sortVals_length false rfl]; exact e.length) (sortVals_data false e er' hal)
end
section
variable {X : Cx} {W : WX} {e : Expr} {es : List Expr} {fl : Rho → ReL} {pos p : Pos} {n m : Nat} {x : Str}
def tupB : PyData → Bool
  | .tuple (_ :: _) => true
  | _ => false
def offB : PyData → Bool
  | .none => false
  | .tuple _ => false
  | _ => true
def sortOk (ds : List PyData) : Bool := (ds.all fun d => ds.all fun e => PySem.W.alike d e) && (ds.all tupB || ds.all offB) && (ds.all fun d => SeqAt.shaped d && decide (d.depth ≤ 60)) && decide (ds.length ≤ sizeLine)
def leD (d e : PyData) : Bool := PySem.W.dataLe false (fun z : PyData => z) d e
theorem sortOk_ok {ds : List PyData} (h : sortOk ds = true) : PySem.W.AllAlike ds ∧ PySem.W.Sortable ds ∧ (∀ d ∈ ds, SeqAt.shaped d = true ∧ d.depth ≤ 60) ∧ ds.length ≤ sizeLine := by
  unfold sortOk at h
  simp only [Bool.and_eq_true, Bool.or_eq_true, List.all_eq_true, decide_eq_true_eq] at h
  obtain ⟨⟨⟨h1, h2⟩, h3⟩, h4⟩ := h
  refine ⟨fun d hd d' hd' => h1 d hd d' hd', ?_, h3, h4⟩
  rcases h2 with h2 | h2
  · refine .inl fun d hd => ?_
    have := h2 d hd
    cases d with
    | tuple xs => cases xs with
      | nil => cases this
      | cons y r => exact ⟨y, r, rfl⟩
    | _ => cases this
  · refine .inr fun d hd => ?_
    have := h2 d hd
    cases d with
    | none => cases this
    | tuple xs => cases this
    | _ => exact ⟨by simp, by simp⟩
def rSortD (K : PySem.W.Frag) : List V → Hp → VK → Prop := fun vs H Q => ∃ (a : Addr) (xs : List V) (ds : List PyData) (m : List Addr), vs = [.ref a] ∧ (SqL K H a xs ∨ SqT K H a xs) ∧ RpAll K ⟨H, m⟩ xs ds ∧ sortOk ds = true ∧
  ∀ p, H p = none → Q (.ref p) (upd H p (.lst (((xs.zip ds).mergeSort (PySem.W.dataLe false fun b : V × PyData => b.2)).map (·.1))))
theorem each_zip {h : Heap} : ∀ {xs : List V} {us : List Value} {ds : List PyData}, Vals xs us → xs.length = ds.length → (∀ (v : V) (u : Value) (d : PyData), (v, d) ∈ xs.zip ds → RelV v u → ∃ as, Reads h u d as) →
    PySem.W.EachIs (fun u (b : V × PyData) => RelV b.1 u) us (xs.zip ds) ∧ PySem.W.EachIs (fun u (b : V × PyData) => ∃ as, Reads h u b.2 as) us (xs.zip ds)
  | _, _, [], .nil, _, _ => ⟨.nil, .nil⟩
  | _, _, d :: ds, .cons r t, l, f => by
    obtain ⟨h1, h2⟩ := each_zip t (ds := ds) (by simpa using l) fun v u d' hm => f v u d' (List.mem_cons_of_mem _ hm)
    exact ⟨.cons r h1, .cons (f _ _ _ List.mem_cons_self r) h2⟩
theorem each_vals : ∀ {us : List Value} {bs : List (V × PyData)}, PySem.W.EachIs (fun u (b : V × PyData) => RelV b.1 u) us bs → Vals (bs.map (·.1)) us
  | _, _, .nil => .nil
  | _, _, .cons h t => .cons h (each_vals t)
theorem zip_fst {α β : Type} : ∀ (xs : List α) (ys : List β), xs.length = ys.length → (xs.zip ys).map (·.1) = xs ∧ (xs.zip ys).map (·.2) = ys
  | [], [], _ => ⟨rfl, rfl⟩
  | x :: xs, y :: ys, h => by
    obtain ⟨h1, h2⟩ := zip_fst xs ys (by simpa using h)
    simp [h1, h2]
theorem rp_zip {K : PySem.W.Frag} {H : Hg} : ∀ {xs : List V} {ds : List PyData}, RpAll K H xs ds → ∀ {v : V} {d : PyData}, (v, d) ∈ xs.zip ds → Rp K H v d
  | _, _, .nil, _, _, h => by simp at h
  | _, _, .cons r t, v, d, h => by
    rw [List.zip_cons_cons] at h
    rcases List.mem_cons.mp h with e | h
    · cases e; exact r
    · exact rp_zip t h
theorem call_sortD (hu : X.A.units + 65 < cLine) : CallR X (.builtin "sorted") (rSortD X.K) := by
  intro pins s σ H vs us Q I r ⟨a, xs, ds, _, ev, hq, rp, ok, q⟩
  subst ev
  obtain ⟨u, eu, rx⟩ := vals1 r
  subst eu
  cases rx
  obtain ⟨hal, hk, hsh, hz⟩ := sortOk_ok ok
  have el := rp.len
  obtain ⟨z1, z2⟩ := zip_fst xs ds el
  have key : ∀ (its : List Value) (T : String) (o : Obj) (n : Nat), T = "list" ∨ T = "tuple" → Vals xs its → s.heap.get? a = some o → o.cls = .type T → o.data = .seq its.toArray n → wpAny (model X.prog X.w) X.A (call (.builtin "sorted") [.ref a]) (EP X pins σ Q) X.xe s := by
    intro its T o n hT rv ho hc hd
    obtain ⟨e1, e2⟩ := each_zip (h := s.heap) rv el fun v u d hm ru => Dp.reads I d v u ((rp_zip rp hm).dp (SeqAt.canLay_of_shaped (hsh d (by rw [← z2]; exact List.mem_map.mpr ⟨(v, d), hm, rfl⟩)).1)) ru
    refine sorted_seq (bs := xs.zip ds) (enc := fun b => b.2) (R := fun u b => RelV b.1 u) hT ho hc hd (by simpa using e1) (by simpa using e2) (by rw [z2]; exact hal) (by rw [z2]; exact hk) (by rw [List.length_zip, el]; omega) (fun b hb => ?_) fun h' p out c le kp hp hl eo => ?_
    · have := (hsh b.2 (by rw [← z2]; exact List.mem_map.mpr ⟨b, hb, rfl⟩)).2
      show X.A.units + 2 + b.2.depth < cLine
      omega
    · have rv' := each_vals eo
      have hlen : (((xs.zip ds).mergeSort (PySem.W.dataLe false fun b : V × PyData => b.2)).map (·.1)).length ≤ sizeLine := by
        rw [List.length_map, List.length_mergeSort, List.length_zip, el]; omega
      exact ⟨.ref p, _, I.laid (t' := s.toks) kp le (show ObjOk X.prog X.w _ _ _ (.lst _) from ⟨hlen, out, c, rv', hp⟩), rfl, q p (I.hok.fresh le)⟩
  rcases hq with hq | hq
  · obtain ⟨its, rv, pl, _⟩ := I.list hq
    obtain ⟨o, n, ho, hc, hd, hdat⟩ := pl
    exact key its "list" o n (.inl rfl) rv ho hc hdat
  · obtain ⟨its, rv, pl, _⟩ := I.tuple hq
    obtain ⟨o, ho, hc, n, hdat⟩ := pl
    exact key its "tuple" o n (.inr rfl) rv ho hc hdat
theorem zip_sort {xs : List V} {ds : List PyData} (l : xs.length = ds.length) : ((xs.zip ds).mergeSort (PySem.W.dataLe false fun b : V × PyData => b.2)).map (·.2) = ds.mergeSort leD := by
  rw [List.map_mergeSort (r := PySem.W.dataLe false fun b : V × PyData => b.2) (s := leD) (f := (·.2)) (l := xs.zip ds) fun a _ b _ => rfl, (zip_fst xs ds l).2]
theorem rpAll_of {K : PySem.W.Frag} {H : Hg} : ∀ {l : List (V × PyData)}, (∀ b ∈ l, Rp K H b.1 b.2) → RpAll K H (l.map (·.1)) (l.map (·.2))
  | [], _ => .nil
  | b :: l, h => .cons (h b List.mem_cons_self) (rpAll_of fun b' hb => h b' (List.mem_cons_of_mem _ hb))
def sortD (ds : List PyData) : Option OV := if sortOk ds = true then some (.lst ((ds.mergeSort leD).map .sh)) else none
def dSorted : PyData → Option OV
  | .list ds => sortD ds
  | .tuple ds => sortD ds
  | _ => none
theorem opn_sorted {K : PySem.W.Frag} : OpN K (rSortD K) (g1 dSorted) := opN1 fun Hf its F H v d c Q s r h q => by
  have key : ∀ (a : Addr) (xs : List V) (ds : List PyData), (SqL K Hf.h a xs ∨ SqT K Hf.h a xs) → RpAll K Hf xs ds → sortD ds = some c → rSortD K [.ref a] H Q := by
    intro a xs ds hq ra hs
    unfold sortD at hs
    by_cases ok : sortOk ds = true
    · rw [if_pos ok] at hs
      cases hs
      refine ⟨a, xs, ds, Hf.m, rfl, ?_, RpAll.mono s.sub ra, ok, fun p hp => ?_⟩
      · rcases hq with z | z
        · exact .inl (s.sub.sqL z)
        · exact .inr (s.sub.sqT z)
      · have ra2 : RpAll K Hf (((xs.zip ds).mergeSort (PySem.W.dataLe false fun b : V × PyData => b.2)).map (·.1)) (ds.mergeSort leD) := by
          rw [← zip_sort ra.len]
          exact rpAll_of fun b hb => rp_zip ra ((List.mergeSort_perm _ _).mem_iff.mp hb)
        refine q _ _ Hf (Same.refl _) ?_
        refine SX.newOwn (C := []) (its := its) s hp fun bs hbs => ?_
        cases hbs
        exact .lst (.of_rp ra2)
    · rw [if_neg ok] at hs; cases hs
  unfold dSorted at h
  cases d with
  | list ds =>
    obtain ⟨a, xs, rfl, t1, r1⟩ := r.sqL
    exact key a xs ds (.inl t1) r1 h
  | tuple ds =>
    obtain ⟨a, xs, rfl, t1, r1⟩ := r.sqT
    exact key a xs ds (.inr t1) r1 h
  | _ => cases h
theorem b_sorted (G : Good X W n) (hm : X.mg "sorted" = none) : BIn X "sorted" "sorted" (g1 dSorted) := ⟨⟨_, call_sortD G.hu, opn_sorted⟩, hm, by decide +kernel⟩
end
section
open PySem.AutoSeq1 in
set_option maxHeartbeats 2000000 in
end
section
variable {prog : Program} {w : World} {A : Around} {E : Value → Shared → Prop} {s : Shared}
end
section
variable {X : Cx} {W : WX} {e : Expr} {es elts : List Expr} {fl : Rho → ReL} {pos p tpos : Pos} {n m kk : Nat} {x : Str}
end
section
variable {X : Cx} {W : WX} {e a b c : Expr} {es elts : List Expr} {f fa fb fk : Rho → Re} {fl : Rho → ReL} {pos p tpos : Pos} {n m kk : Nat} {x : Str}
def stepD (lo c : Int) (n : Nat) : List PyData := (List.range n).map fun i => .int (lo + (i : Nat) * c)
theorem walkD_step {K : PySem.W.Frag} {Hf : Hg} {lo c : Int} {n : Nat} : WalkD K Hf (Itc lo c n) (stepD lo c n) := by
  have hl : (stepD lo c n).length = n := by simp [stepD]
  refine ⟨fun i H hi _ => by rw [hl] at hi; exact hi, fun H _ => by rw [hl]; exact Nat.le_refl _, fun i H y H' hi _ q => ?_⟩
  obtain ⟨e1, e2⟩ := q
  rw [hl] at hi
  refine ⟨.int (lo + (i : Nat) * c), by simp [stepD, hi], .inl ⟨e1, ?_⟩⟩
  rw [e2]
  exact .int _
def stepOk (i j c : Int) : Bool := decide (c ≠ 0) && decide (c.natAbs < 1073741824) && Builtin.Range.small i j c && decide (0 ≤ Builtin.Range.rangeSize i j c)
def iRange3 (fl : Rho → ReL) (ρ : Rho) : ReI := match fl ρ with
  | .ok [.sh (.int i), .sh (.int j), .sh (.int c)] ρ1 => if stepOk i j c = true then .ok (stepD i c (Builtin.Range.rangeSize i j c).toNat) ρ1 else .stk
  | .exc e ρ1 => .exc e ρ1
  | _ => .stk
theorem ei_range3 {tg : Expr} (hg : Gl X "range") (hm : X.mg "range" = none) (h : EvL X W [a, b, c] fl)
    (hs : starEach [a, b, c] X.env = (false, eval a X.env) :: starEach [b, c] X.env := by rfl) (hpl : (backTo pos (starEach [b, c] X.env)).any (·.1) = false := by rfl) : EvI X W tg (.Call (.Name "range" p) [a, b, c] [] pos) (iRange3 fl) :=
  pi_w (pi_range3 hg hm h hs hpl) fun σ H R ⟨Hf, T, ρ, F, s, h⟩ => by
    refine ⟨Hf, T, ρ, F, s, ?_⟩
    unfold iRange3 at h
    cases q : fl ρ with
    | exc e ρ1 => rw [q] at h; exact h
    | stk => rw [q] at h; exact h
    | ok os ρ1 =>
      rw [q] at h
      intro vs H1 Hf1 l sm s1
      match os, h with
      | [.sh (.int i), .sh (.int j), .sh (.int c)], h =>
        match vs, l with
        | [u, v, w], _ =>
          by_cases hr : stepOk i j c = true
          · simp only [if_pos hr] at h
            have e1 := rp_int (SI.rp (T := (v, .sh (.int j)) :: (w, .sh (.int c)) :: T) s1)
            have s2 : SI X.K Hf1 ((v, .sh (.int j)) :: (w, .sh (.int c)) :: T) ρ1 F σ H1 := SI.drop s1
            have e2 := rp_int s2.rp
            have e3 := rp_int s2.drop.rp
            subst e1 e2 e3
            unfold stepOk at hr
            simp only [Bool.and_eq_true, decide_eq_true_eq] at hr
            obtain ⟨⟨⟨h1, h2⟩, h3⟩, h4⟩ := hr
            exact ⟨i, j, c, _, rfl, ⟨h1, h2, h3, (Int.toNat_of_nonneg h4).symm⟩, h _ H1 Hf1 sm s2.drop.drop walkD_step⟩
          · simp only [if_neg hr] at h
end
section
variable {K : PySem.W.Frag} {Hf : Hg} {H : Hp} {its : Its} {F : Fr} {F0 : Bs} {p : Addr} {u0 u : HO} {T : Its} {ρ : Rho} {σ : St}
end
section
variable {X : Cx} {W : WX} {e a b c : Expr} {fk fv : Rho → Re} {pos p : Pos} {n m : Nat}
theorem mergeK_nodup : ∀ (more kvs : List (Key × V)), ((kvs ++ more).map (·.1)).Nodup → mergeK kvs more = kvs ++ more
  | [], kvs, _ => by simp [mergeK]
  | (k, v) :: more, kvs, n => by
    have e : putK kvs k v = kvs ++ [(k, v)] := by
      unfold putK
      rw [if_neg]
      intro h
      obtain ⟨q, hq, e⟩ := List.any_eq_true.mp h
      have e := of_decide_eq_true e
      rw [List.map_append, List.nodup_append] at n
      exact n.2.2 q.1 (List.mem_map.mpr ⟨q, hq, rfl⟩) k (by simp) e
    have := mergeK_nodup more (kvs ++ [(k, v)]) (by simpa using n)
    unfold mergeK at this ⊢
    rw [List.foldl_cons, e, this]
    simp
end
def eDT (ρ : Rho) : Re := .ok (.dt []) ρ
def scal : PyData → Bool
  | .none => true | .bool _ => true | .int _ => true | .str _ => true | _ => false
section
variable {K : PySem.W.Frag}
def gSubD (d e : PyData) : Option PyData := match d, e with
  | .list ds, .int i => atI ds i
  | .tuple ds, .int i => atI ds i
  | .dict kvs, k => if okK kvs k = true then dLook kvs k else none
  | _, _ => none
def gSubP (d e : PyData) : Option PyData := match gSubD d e with
  | some c => if scal c = true then some c else none
  | none => none
end
section
variable {X : Cx} {W : WX} {e a b c : Expr} {es : List Expr} {f fa fb fk : Rho → Re} {fl : Rho → ReL} {pos apos cpos p : Pos} {n m k : Nat} {x : Str}
theorem ev_dT : EvE X W (.Dict [] [] pos) eDT := ev_dnewT
def OpP1 (K : PySem.W.Frag) (r : List V → Hp → VK → Prop) (g : PyData → Option PyData) : Prop :=
  ∀ (H : Hg) (x : V) (d c : PyData) (Q : VK), Rp K H x d → g d = some c → (∀ v, (∀ H', Rp K H' v c) → Q v H.h) → r [x] H.h Q
def eB1 (g : PyData → Option PyData) (i : Nat) (ρ : Rho) : Re := match ρ.sl[i]? with
  | some (some o) => ofP (g (fz o)) ρ
  | _ => .stk
theorem b1_post {r : List V → Hp → VK → Prop} {g : PyData → Option PyData} (ho : OpP1 X.K r g) {σ : St} {H : Hp} {Q : VK} {Hf : Hg} {T : Its} {ρ : Rho} {F : Bs} {i : Nat} (s : SI X.K Hf T ρ F σ H) (h : PostE X W Hf T F σ (eB1 g i ρ) Q) : tCons (tVar i) tNil σ H fun vs H1 => r vs H1 Q := by
  unfold eB1 at h
  cases q : ρ.sl[i]? with
  | none => simp only [q] at h; exact h.elim
  | some z =>
    cases z with
    | none => simp only [q] at h; exact h.elim
    | some o =>
      simp only [q] at h
      obtain ⟨v, hv, s2, _⟩ := s.take q
      refine ⟨v, hv, ?_⟩
      have rx : Rp X.K (_ : Hg) v (fz o) := s2.rdH
      unfold ofP at h
      cases q2 : g (fz o) with
      | none => simp only [q2] at h; exact h.elim
      | some c =>
        simp only [q2] at h
        exact ho (Hf.on H) v _ c Q rx q2 fun w hw => h w H Hf (Same.refl _) (s.add (hw Hf))
def dLenP : PyData → Option PyData
  | .list ds => some (.int ds.length)
  | .tuple ds => some (.int ds.length)
  | _ => none
theorem opp_len {K : PySem.W.Frag} : OpP1 K (fun xs H Q => ∃ p ys, xs = [V.ref p] ∧ (SqL K H p ys ∨ SqT K H p ys) ∧ Q (.int ys.length) H) dLenP := by
  intro H x d c Q r h q
  cases d with
  | list ds =>
    cases h
    obtain ⟨p1, ys, rfl, t1, r1⟩ := r.sqL
    exact ⟨p1, ys, rfl, .inl t1, q _ fun _ => by rw [r1.len]; exact .int _⟩
  | tuple ds =>
    cases h
    obtain ⟨p1, ys, rfl, t1, r1⟩ := r.sqT
    exact ⟨p1, ys, rfl, .inr t1, q _ fun _ => by rw [r1.len]; exact .int _⟩
  | _ => cases h
theorem ev_lenB {i : Nat} (hg : Gl X "len") (hm : X.mg "len" = none) (hx : PE X e (tVar i)) (hs : starEach [e] X.env = (false, eval e X.env) :: starEach [] X.env := by rfl) (hpl : (backTo pos (starEach [] X.env)).any (·.1) = false := by rfl) :
    EvE X W (.Call (.Name "len" p) [e] [] pos) (eB1 dLenP i) :=
  pe_w (pe_callB call_len_seq hg hm boot_len (pa_cons hx pa_nil hs) (by decide) (by decide) hs hpl) fun σ H Q ⟨Hf, T, ρ, F, s, h⟩ => b1_post opp_len s h
end
def pairsOf : List PyData → Option (List (Key × PyData))
  | [] => some []
  | .tuple [k, d] :: ds => match asKey k, pairsOf ds with
    | some q, some r => some ((q, d) :: r)
    | _, _ => none
  | _ => none
def dDict : PyData → Option OV
  | .list ds => match pairsOf ds with
    | some kvs => if (kvs.map (·.1)).Nodup ∧ kvs.length ≤ sizeLine then some (.dk (kvs.map fun q => (q.1, .sh q.2))) else none
    | none => none
  | _ => none
section
variable {K : PySem.W.Frag} {H : Hg}
theorem pairs_rp : ∀ {xs : List V} {ds : List PyData} {kvs : List (Key × PyData)}, RpAll K H xs ds → pairsOf ds = some kvs →
    ∃ (ps : List Addr) (vs : List (Key × V)), xs = ps.map V.ref ∧ Paired (fun p (kv : Key × V) => SqT K H.h p [kV kv.1, kv.2]) ps vs ∧ vs.map (·.1) = kvs.map (·.1) ∧ RpAll K H (vs.map (·.2)) (kvs.map (·.2))
  | [], [], kvs, .nil, h => by cases h; exact ⟨[], [], rfl, .nil, rfl, .nil⟩
  | x :: xs, d :: ds, kvs, .cons r t, h => by
    unfold pairsOf at h
    split at h
    · rename_i e; cases e
    · rename_i k d' ds' e
      cases e
      cases q1 : asKey k with
      | none => simp [q1] at h
      | some q =>
        cases q2 : pairsOf ds with
        | none => simp [q1, q2] at h
        | some r' =>
          simp only [q1, q2] at h
          cases h
          obtain ⟨ps, vs, e1, e2, e3, e4⟩ := pairs_rp t q2
          obtain ⟨a, ys, rfl, ta, ra⟩ := r.sqT
          cases ra with
          | cons r1 ra =>
            cases ra with
            | cons r2 ra =>
              cases ra
              rw [asKey_inv q1] at r1
              have ek := rp_key r1
              subst ek
              exact ⟨a :: ps, (q, _) :: vs, by rw [e1]; rfl, .cons ta e2, by simp [e3], .cons r2 e4⟩
    · cases h
theorem kv_zip {α β γ : Type} (l : List (α × β)) (f : β → γ) : l.map (fun q => (q.1, f q.2)) = (l.map (·.1)).zip ((l.map (·.2)).map f) := by
  induction l with
  | nil => rfl
  | cons q r ih => simp only [List.map_cons, List.zip_cons_cons, ih]
theorem opn_dict : OpN K (fun xs H Q => ∃ (a : Addr) (ps : List Addr) (kvs : List (Key × V)), xs = [V.ref a] ∧ SqL K H a (ps.map V.ref) ∧ Paired (fun p (kv : Key × V) => SqT K H p [kV kv.1, kv.2]) ps kvs ∧
    ∀ p, H p = none → Q (.ref p) (upd H p (.dK (mergeK [] kvs)))) (g1 dDict) := opN1 fun Hf its F H v d c Q s r h q => by
  cases d with
  | list ds =>
    unfold dDict at h
    cases q1 : pairsOf ds with
    | none => simp [q1] at h
    | some kvs =>
      simp only [q1] at h
      by_cases hc : (kvs.map (·.1)).Nodup ∧ kvs.length ≤ sizeLine
      · rw [if_pos hc] at h
        cases h
        obtain ⟨a, xs, rfl, t1, r1⟩ := r.sqL
        obtain ⟨ps, vs, rfl, e2, e3, e4⟩ := pairs_rp r1 q1
        refine ⟨a, ps, vs, rfl, s.sub.sqL t1, Paired.mapP e2 fun _ _ z => s.sub.sqT z, fun p hp => ?_⟩
        rw [mergeK_nodup vs [] (by rw [List.nil_append, e3]; exact hc.1), List.nil_append]
        refine q _ _ Hf (Same.refl _) ?_
        rw [kv_zip kvs OV.sh, ← e3]
        have lv : (vs.map (·.1)).length = (vs.map (·.2)).length := by simp
        have ez : vs = (vs.map (·.1)).zip (vs.map (·.2)) := by
          clear e2 e3 e4 lv
          induction vs with
          | nil => rfl
          | cons q r ih => rw [List.map_cons, List.map_cons, List.zip_cons_cons, ← ih]
        rw [show HO.dK vs = HO.dK ((vs.map (·.1)).zip (vs.map (·.2))) from congrArg HO.dK ez]
        refine SX.newOwn (C := []) (its := its) s hp fun bs hbs => ?_
        cases hbs
        exact .dk lv (by rw [e3]; exact hc.1) (.of_rp e4)
      · rw [if_neg hc] at h; cases h
  | _ => cases h
end
section
variable {X : Cx} {W : WX} {e a b c : Expr} {es : List Expr} {f fa fb fk : Rho → Re} {fl : Rho → ReL} {pos apos cpos p : Pos} {n m k : Nat} {x : Str}
def gIsiP (T : String) (d : PyData) : Option PyData := if isDict d = true then none else some (.bool (isiB T d))
end
theorem gi_int_none : gIsi "int" [.sh .none] = some (.sh (.bool false)) := by simp only [gIsi, fz_sh, isDict, isiB, Bool.false_eq_true, if_false] <;> rfl
theorem gi_int_bool {b : Bool} : gIsi "int" [.sh (.bool b)] = some (.sh (.bool true)) := by simp only [gIsi, fz_sh, isDict, isiB, Bool.false_eq_true, if_false] <;> rfl
theorem gi_int_int {i : Int} : gIsi "int" [.sh (.int i)] = some (.sh (.bool true)) := by simp only [gIsi, fz_sh, isDict, isiB, Bool.false_eq_true, if_false] <;> rfl
theorem gi_int_str {x : Str} : gIsi "int" [.sh (.str x)] = some (.sh (.bool false)) := by simp only [gIsi, fz_sh, isDict, isiB, Bool.false_eq_true, if_false] <;> rfl
theorem gi_int_list {xs : List PyData} : gIsi "int" [.sh (.list xs)] = some (.sh (.bool false)) := by simp only [gIsi, fz_sh, isDict, isiB, Bool.false_eq_true, if_false] <;> rfl
theorem gi_int_tuple {xs : List PyData} : gIsi "int" [.sh (.tuple xs)] = some (.sh (.bool false)) := by simp only [gIsi, fz_sh, isDict, isiB, Bool.false_eq_true, if_false] <;> rfl
theorem gi_bool_none : gIsi "bool" [.sh .none] = some (.sh (.bool false)) := by simp only [gIsi, fz_sh, isDict, isiB, Bool.false_eq_true, if_false] <;> rfl
theorem gi_bool_bool {b : Bool} : gIsi "bool" [.sh (.bool b)] = some (.sh (.bool true)) := by simp only [gIsi, fz_sh, isDict, isiB, Bool.false_eq_true, if_false] <;> rfl
theorem gi_bool_int {i : Int} : gIsi "bool" [.sh (.int i)] = some (.sh (.bool false)) := by simp only [gIsi, fz_sh, isDict, isiB, Bool.false_eq_true, if_false] <;> rfl
theorem gi_bool_str {x : Str} : gIsi "bool" [.sh (.str x)] = some (.sh (.bool false)) := by simp only [gIsi, fz_sh, isDict, isiB, Bool.false_eq_true, if_false] <;> rfl
theorem gi_bool_list {xs : List PyData} : gIsi "bool" [.sh (.list xs)] = some (.sh (.bool false)) := by simp only [gIsi, fz_sh, isDict, isiB, Bool.false_eq_true, if_false] <;> rfl
theorem gi_bool_tuple {xs : List PyData} : gIsi "bool" [.sh (.tuple xs)] = some (.sh (.bool false)) := by simp only [gIsi, fz_sh, isDict, isiB, Bool.false_eq_true, if_false] <;> rfl
theorem gi_str_none : gIsi "str" [.sh .none] = some (.sh (.bool false)) := by simp only [gIsi, fz_sh, isDict, isiB, Bool.false_eq_true, if_false] <;> rfl
theorem gi_str_bool {b : Bool} : gIsi "str" [.sh (.bool b)] = some (.sh (.bool false)) := by simp only [gIsi, fz_sh, isDict, isiB, Bool.false_eq_true, if_false] <;> rfl
theorem gi_str_int {i : Int} : gIsi "str" [.sh (.int i)] = some (.sh (.bool false)) := by simp only [gIsi, fz_sh, isDict, isiB, Bool.false_eq_true, if_false] <;> rfl
theorem gi_str_str {x : Str} : gIsi "str" [.sh (.str x)] = some (.sh (.bool true)) := by simp only [gIsi, fz_sh, isDict, isiB, Bool.false_eq_true, if_false] <;> rfl
theorem gi_str_list {xs : List PyData} : gIsi "str" [.sh (.list xs)] = some (.sh (.bool false)) := by simp only [gIsi, fz_sh, isDict, isiB, Bool.false_eq_true, if_false] <;> rfl
theorem gi_str_tuple {xs : List PyData} : gIsi "str" [.sh (.tuple xs)] = some (.sh (.bool false)) := by simp only [gIsi, fz_sh, isDict, isiB, Bool.false_eq_true, if_false] <;> rfl
theorem gi_list_none : gIsi "list" [.sh .none] = some (.sh (.bool false)) := by simp only [gIsi, fz_sh, isDict, isiB, Bool.false_eq_true, if_false] <;> rfl
theorem gi_list_bool {b : Bool} : gIsi "list" [.sh (.bool b)] = some (.sh (.bool false)) := by simp only [gIsi, fz_sh, isDict, isiB, Bool.false_eq_true, if_false] <;> rfl
theorem gi_list_int {i : Int} : gIsi "list" [.sh (.int i)] = some (.sh (.bool false)) := by simp only [gIsi, fz_sh, isDict, isiB, Bool.false_eq_true, if_false] <;> rfl
theorem gi_list_str {x : Str} : gIsi "list" [.sh (.str x)] = some (.sh (.bool false)) := by simp only [gIsi, fz_sh, isDict, isiB, Bool.false_eq_true, if_false] <;> rfl
theorem gi_list_list {xs : List PyData} : gIsi "list" [.sh (.list xs)] = some (.sh (.bool true)) := by simp only [gIsi, fz_sh, isDict, isiB, Bool.false_eq_true, if_false] <;> rfl
theorem gi_list_tuple {xs : List PyData} : gIsi "list" [.sh (.tuple xs)] = some (.sh (.bool false)) := by simp only [gIsi, fz_sh, isDict, isiB, Bool.false_eq_true, if_false] <;> rfl
theorem gi_tuple_none : gIsi "tuple" [.sh .none] = some (.sh (.bool false)) := by simp only [gIsi, fz_sh, isDict, isiB, Bool.false_eq_true, if_false] <;> rfl
theorem gi_tuple_bool {b : Bool} : gIsi "tuple" [.sh (.bool b)] = some (.sh (.bool false)) := by simp only [gIsi, fz_sh, isDict, isiB, Bool.false_eq_true, if_false] <;> rfl
theorem gi_tuple_int {i : Int} : gIsi "tuple" [.sh (.int i)] = some (.sh (.bool false)) := by simp only [gIsi, fz_sh, isDict, isiB, Bool.false_eq_true, if_false] <;> rfl
theorem gi_tuple_str {x : Str} : gIsi "tuple" [.sh (.str x)] = some (.sh (.bool false)) := by simp only [gIsi, fz_sh, isDict, isiB, Bool.false_eq_true, if_false] <;> rfl
theorem gi_tuple_list {xs : List PyData} : gIsi "tuple" [.sh (.list xs)] = some (.sh (.bool false)) := by simp only [gIsi, fz_sh, isDict, isiB, Bool.false_eq_true, if_false] <;> rfl
theorem gi_tuple_tuple {xs : List PyData} : gIsi "tuple" [.sh (.tuple xs)] = some (.sh (.bool true)) := by simp only [gIsi, fz_sh, isDict, isiB, Bool.false_eq_true, if_false] <;> rfl
theorem nl0 : ((0 : Nat) : Int) = 0 := rfl
theorem nl1 : ((1 : Nat) : Int) = 1 := rfl
theorem nl2 : ((2 : Nat) : Int) = 2 := rfl
theorem nl3 : ((3 : Nat) : Int) = 3 := rfl
theorem nl4 : ((4 : Nat) : Int) = 4 := rfl
theorem nl5 : ((5 : Nat) : Int) = 5 := rfl
theorem nl6 : ((6 : Nat) : Int) = 6 := rfl
theorem nl7 : ((7 : Nat) : Int) = 7 := rfl
theorem nl8 : ((8 : Nat) : Int) = 8 := rfl
theorem nl9 : ((9 : Nat) : Int) = 9 := rfl
theorem nl10 : ((10 : Nat) : Int) = 10 := rfl
theorem nl11 : ((11 : Nat) : Int) = 11 := rfl
theorem nl12 : ((12 : Nat) : Int) = 12 := rfl
theorem nl13 : ((13 : Nat) : Int) = 13 := rfl
theorem nl14 : ((14 : Nat) : Int) = 14 := rfl
theorem nl15 : ((15 : Nat) : Int) = 15 := rfl
theorem nl16 : ((16 : Nat) : Int) = 16 := rfl
theorem nl17 : ((17 : Nat) : Int) = 17 := rfl
theorem nl18 : ((18 : Nat) : Int) = 18 := rfl
theorem nl19 : ((19 : Nat) : Int) = 19 := rfl
theorem nl20 : ((20 : Nat) : Int) = 20 := rfl
theorem OwnL.get {K : PySem.W.Frag} {Hf : Hg} : ∀ {vs : List V} {os : List OV} {bs : Bs} {j : Nat} {d : PyData}, OwnL K Hf vs os bs → os[j]? = some (.sh d) → ∃ v, vs[j]? = some v ∧ Rp K Hf v d
  | _, _, _, _, _, .nil, e => by simp at e
  | _, _, _, 0, _, .cons h r, e => by
    simp at e; subst e
    cases h with
    | sh h => exact ⟨_, rfl, h⟩
  | _, _, _, j + 1, d, .cons h r, e => by
    obtain ⟨v, h1, h2⟩ := OwnL.get (j := j) (d := d) r (by simpa using e)
    exact ⟨v, by simpa using h1, h2⟩
section
variable {X : Cx} {W : WX} {e a b c : Expr} {f fk : Rho → Re} {p p2 pos tpos : Pos} {m : Nat}
end
section
variable {X : Cx} {W : WX} {a b : Expr} {fl : Rho → ReL} {fa fb : Rho → Re} {ap cp : Pos} {m : Nat}
end
inductive Laid (H : Hp) : List Addr → List (V × V) → Hp → Prop
  | nil : Laid H [] [] H
  | snoc {Ts : List Addr} {ps : List (V × V)} {H1 : Hp} {T : Addr} {x y : V} : Laid H Ts ps H1 → H1 T = none → Laid H (Ts ++ [T]) (ps ++ [(x, y)]) (upd H1 T (.tup [x, y]))
theorem Laid.len {H H1 : Hp} {Ts : List Addr} {ps : List (V × V)} (l : Laid H Ts ps H1) : Ts.length = ps.length := by
  induction l with
  | nil => rfl
  | snoc _ _ ih => simp [ih]
section
variable {X : Cx} {pins : List (Addr × Obj)} {σ : St}
end
section
variable {X : Cx} {W : WX} {a b : Expr} {ta : TA} {fl : Rho → ReL} {p q pos cpos : Pos} {n : Nat}
end
def subS (o : OV) (e : PyData) : Option PyData := match subO o e with
  | some (.sh c) => some c
  | _ => none
def orP (a b : Option PyData) : Option PyData := match a with
  | some c => some c
  | none => b
def gSubO (o : OV) (e : PyData) : Option PyData := orP (gSubP (fz o) e) (subS o e)
theorem orP_some {c : PyData} {b : Option PyData} : orP (some c) b = some c := nrfl rfl
theorem gSubO_eq {o : OV} {e : PyData} : gSubO o e = orP (gSubP (fz o) e) (subS o e) := nrfl rfl
section
variable {X : Cx} {W : WX} {a b : Expr} {fb : Rho → Re} {pos : Pos} {n : Nat}
end
def flagsL (x : Str) : List Bool := (excNames.map fun y => decide (x = y)) ++ [true]
section
variable {P : Program} {w : World} {K : PySem.W.Frag} {mg : Str → Option Value} {base : Heap} {ag : Arguments} {bd : List Stmt} {sco : Scope} {f : Addr} {fd : FuncData} {dvs : List V} {kws : List (Str × V)} {qual : Str}
end
section
variable {X : Cx} {p0 p1 p2 p3 p4 p5 p6 p7 p8 p9 : Pos}
end
def Mor (H H' : Hp) : Prop := ∀ b u, H b = some u → H' b = some u
theorem Mor.refl (H : Hp) : Mor H H := fun _ _ h => h
theorem Mor.trans {A B C : Hp} (h : Mor A B) (k : Mor B C) : Mor A C := fun b u q => k b u (h b u q)
theorem Mor.new {H : Hp} {p : Addr} {u : HO} (h : H p = none) : Mor H (upd H p u) := fun b o q => by
  rw [upd_ne (ne_of_none q h)]; exact q
def isS : OV → Bool
  | .sh (.str _) => true
  | _ => false
section
variable {X : Cx} {W : WX} {a : Expr} {f : Rho → Re} {p pos pos' : Pos} {m : Nat} {x : Str}
end
section
variable {X : Cx} {a C dd : Addr} {oe : Obj}
variable {p q pos : Pos} {e : Expr} {es : List Expr} {b : Bool} {bs : List Bool} {x : Str} {tn ev : Expr}
end
section
variable {P : Program} {w : World} {K : PySem.W.Frag} {mg : Str → Option Value} {base : Heap} {ag : Arguments} {bd : List Stmt} {sco : Scope} {f : Addr} {fd : FuncData}
end
theorem SX.flags {K : PySem.W.Frag} {Hf : Hg} {H : Hp} {F : Fr} {p : Addr} (s : SX K Hf [] F H) (hp : H p = none) (bs : List Bool) : SX K Hf [(.ref p, .lst (bs.map fun b => .sh (.bool b)))] F (upd H p (.lst (bs.map V.bl))) := by
  have r : RpAll K Hf (bs.map V.bl) (bs.map PyData.bool) := by
    clear s
    induction bs with
    | nil => exact .nil
    | cons b bs ih => exact .cons (.bl b) ih
  have := SX.mkLst s r hp
  simpa [List.map_map, Function.comp_def] using this
section
variable {X : Cx} {W : WX} {m i j : Nat} {body : List Stmt} {gb : Rho → Out} {np p0 p1 p2 p3 p4 pos pos' : Pos} {x : Str} {ev : Expr}
end
end Ev
namespace EvK
open PySem PySem.HandSPX Builtin Builtin.ObjectAttr
section
variable {prog : Program} {w : World} {A : Around} {E : Value → Shared → Prop} {R : Result → Shared → Prop} {h : Heap} {g : Array GenState} {d : Drawn} {t : Nat} {os : OsState}
variable {nm q : Str} {C N : Addr} {bs bm bmB : List Value} {hdct : Bool} {sn : List Str} {sub : List Value} {ab : Bool} {col : Option Bool} {dd : Option Addr} {k0 k1 k2 k3 k5 : Option Value} {B nid initId : String} {kw : List (Str × Value)}
end
end EvK
namespace Ev
open PySem PySem.Spec L2
open PyProof.Rows hiding St
section
variable {X : Cx} {CX : CXT} {k n : Nat} {fI C : Addr} {fd : FuncData} {ps ks : List Str} {sp : Sp} {x : Str} {p pos pos' : Pos} {e : Expr} {es : List Expr} {kws : List Keyword} {ta tk : TA} {g : List Value → List Value → List Value} {gV : List V → List V → List V}
end
section
variable {X : Cx} {W : WX} {a b : Expr} {f fk : Rho → Re} {p pos pos' kp : Pos} {m : Nat} {x : Str}
end
def runO (m : Nat) (body : Rho → Out) (os : List OV) (st : List SO) : Rv := outRv (body ⟨os.map some ++ List.replicate (m - os.length) none, st⟩)
section
variable {X : Cx} {W : WX} {e : Expr} {es : List Expr} {fl : Rho → ReL} {p pos : Pos} {n m k : Nat} {x : Str} {g : List OV → List SO → Rv}
end
section
variable {P : Program} {w : World} {K : PySem.W.Frag} {mg : Str → Option Value} {base : Heap} {x qual : Str} {ag : Arguments} {bd : List Stmt} {sco : Scope} {f : Addr} {fd : FuncData}
end
section
variable {X : Cx}
abbrev KvP (K : PySem.W.Frag) (H : Hp) : Addr → List Key × Addr × V → Prop := fun p kv => SqT K H p [.ref kv.2.1, kv.2.2] ∧ H kv.2.1 = some (.tup (kv.1.map kV))
def rDictT (K : PySem.W.Frag) : List V → Hp → VK → Prop := fun xs H Q => ∃ (a : Addr) (ps : List Addr) (kvs : List (List Key × Addr × V)), xs = [V.ref a] ∧ SqL K H a (ps.map V.ref) ∧ Paired (KvP K H) ps kvs ∧
  ∀ p, H p = none → Q (.ref p) (upd H p (.dT (kvs.foldl (fun l q => putK l q.1 q.2.2) [])))
theorem pairsT_of {pins : List (Addr × Obj)} {σ : St} {H : Hp} {s : Shared} (I : Inv X pins σ H s) : ∀ {ps : List Addr} {kvs : List (List Key × Addr × V)}, Paired (KvP X.K H) ps kvs →
    ∃ prs : List (List Key × Addr × Value), Paired (fun kv q => kv.1 = q.1 ∧ kv.2.1 = q.2.1 ∧ H q.2.1 = some (.tup (q.1.map kV)) ∧ RelV kv.2.2 q.2.2) kvs prs ∧ prs.length = ps.length ∧
      ∀ (j : Nat) (q : List Key × Addr × Value), prs[j]? = some q → ∃ b : Addr, ps[j]? = some b ∧ IsTup s.heap b #[.ref q.2.1, q.2.2]
  | _, _, .nil => ⟨[], .nil, rfl, fun j q e => by simp at e⟩
  | _, _, .cons (a := p) (b := kv) h t => by
    obtain ⟨prs, r, hl, hp⟩ := pairsT_of I t
    obtain ⟨its, rv, ht, _⟩ := I.tuple h.1
    obtain ⟨u, y, ei, ru, ry⟩ := vals2 rv
    subst ei
    cases ru
    refine ⟨(kv.1, kv.2.1, y) :: prs, .cons ⟨rfl, rfl, h.2, ry⟩ r, by rw [List.length_cons, List.length_cons, hl], fun j q e => ?_⟩
    cases j with
    | zero =>
      have e' : (kv.1, kv.2.1, y) = q := Option.some.inj e
      subst e'
      exact ⟨p, rfl, ht⟩
    | succ j =>
      obtain ⟨b, e1, e2⟩ := hp j q (by simpa using e)
      exact ⟨b, by simpa using e1, e2⟩
theorem kt_fold {H : Hp} : ∀ {kvs : List (List Key × Addr × V)} {prs : List (List Key × Addr × Value)} {l : List (List Key × V)} {m : List (List Key × Addr × Value)}, Paired (fun kv q => kv.1 = q.1 ∧ kv.2.1 = q.2.1 ∧ H q.2.1 = some (.tup (q.1.map kV)) ∧ RelV kv.2.2 q.2.2) kvs prs → KT H l m →
    KT H (kvs.foldl (fun l q => putK l q.1 q.2.2) l) (PySem.storedAllH m prs)
  | _, _, _, _, .nil, h => h
  | _, _, l, m, .cons (a := kv) (b := q) z t, h => by
    obtain ⟨e1, e2, e3, e4⟩ := z
    show KT H (List.foldl _ (putK l kv.1 kv.2.2) _) (PySem.storedAllH (storedH m q.1 q.2.1 q.2.2) _)
    refine kt_fold t ?_
    rw [e1]
    exact h.put q.1 e3 e4
theorem length_foldK : ∀ (kvs : List (List Key × Addr × V)) (l : List (List Key × V)), (kvs.foldl (fun l q => putK l q.1 q.2.2) l).length ≤ l.length + kvs.length
  | [], l => by simp
  | q :: kvs, l => by
    have h1 := length_foldK kvs (putK l q.1 q.2.2)
    have h2 := length_putK l q.1 q.2.2
    rw [List.foldl_cons, List.length_cons]
    omega
theorem call_dictT (hcalm : X.calm = true) (hu : X.A.units + 65 < cLine) : CallR X (.type "dict") (rDictT X.K) := by
  intro pins s σ H xs us Q I r q
  obtain ⟨a, ps, kvs, ex, hq, hp, q⟩ := q
  subst ex
  obtain ⟨u, eu, rx⟩ := vals1 r
  subst eu
  cases rx
  obtain ⟨its, rv, pl, hz⟩ := I.list hq
  have ei := refs_at rv
  subst ei
  rw [List.length_map] at hz
  obtain ⟨prs, rel, hl, hpr⟩ := pairsT_of I hp
  obtain ⟨o, n, ho, hc, hd, hdat⟩ := pl
  have hk : ∀ x ∈ prs, (tupleKind (mixKind X.prog X.w)).is s.heap x.1 x.2.1 ∧ H x.2.1 = some (.tup (x.1.map kV)) := by
    have : ∀ {kvs : List (List Key × Addr × V)} {prs : List (List Key × Addr × Value)}, Paired (fun kv q => kv.1 = q.1 ∧ kv.2.1 = q.2.1 ∧ H q.2.1 = some (.tup (q.1.map kV)) ∧ RelV kv.2.2 q.2.2) kvs prs → ∀ x ∈ prs, H x.2.1 = some (.tup (x.1.map kV)) := by
      intro l m q
      induction q with
      | nil => intro x hx; exact nomatch hx
      | @cons p q ps qs hq t ih =>
        intro x hx
        rcases List.mem_cons.mp hx with e | hx
        · subst e; exact hq.2.2.1
        · exact ih x hx
    exact fun x hx => ⟨key_of I.hok (this rel x hx), this rel x hx⟩
  have tup : ∀ b its, IsTup s.heap b its → s.heap.IsTuple b its := fun b its h => h
  have items : PairItems s.heap (ps.map Value.ref).toArray (fun j => ps.getD j 0) (prs.map fun q => (Value.ref q.2.1, q.2.2)) := by
    refine ⟨by simp [hl], fun j k v e => ?_⟩
    rw [List.getElem?_map] at e
    obtain ⟨q', e1, e2⟩ := Option.map_eq_some_iff.mp e
    cases e2
    obtain ⟨b, hb, hT⟩ := hpr j q' e1
    have : ps.getD j 0 = b := by rw [List.getD_eq_getElem?_getD, hb]; rfl
    simp only [this]
    exact ⟨by simp [hb], .inl (tup _ _ hT)⟩
  refine PySem.call_dict_pairsH (knd := tupleKind (mixKind X.prog X.w)) (ps := prs) (PairArg.list a (ps.map Value.ref).toArray (fun j => ps.getD j 0) (prs.map fun q => (Value.ref q.2.1, q.2.2))) (I.ok.hd hcalm) (show X.A.in1.in1.units < cLine from ?_) ⟨⟨o, n, ho, hc, hd, hdat⟩, items⟩ ?_ ?_ (by rw [List.length_map, hl]; exact hz) fun h' tk hd' k => ?_
  · show X.A.units + 1 + 1 < cLine
    omega
  · refine ⟨by rw [List.length_map], fun i key v e => ?_⟩
    have e : (prs.map fun q => (Value.ref q.2.1, q.2.2))[i]? = some (key, v) := e
    rw [List.getElem?_map] at e
    obtain ⟨q', e1, e2⟩ := Option.map_eq_some_iff.mp e
    cases e2
    exact ⟨_, _, e1, rfl⟩
  · intro h' keep x hx
    obtain ⟨o1, it, m, g1, g2, g3, g4⟩ := (hk x hx).1
    exact ⟨o1, it, m, keep _ _ (Nat.ne_of_lt (Heap.lt_size g1)) (by simp) g1, g2, g3, g4⟩
  · have k' : ∀ b u, s.heap.get? b = some u → h'.get? b = some u := fun b u e => k b u (by simp) e
    have hm : (s.heap.objs.size == sysModules) = false := beq_eq_false_iff_ne.mpr (Nat.ne_of_gt I.big)
    have hlen : (kvs.foldl (fun l q => putK l q.1 q.2.2) ([] : List (List Key × V))).length ≤ sizeLine := by
      have h1 := length_foldK kvs []
      have h2 := rel.length
      rw [List.length_nil] at h1
      omega
    obtain ⟨o1, es, ep, g1, g2, g3, g4, g5, g6⟩ := hd'
    have kt : KT (upd H s.heap.objs.size (.dT (kvs.foldl (fun l q => putK l q.1 q.2.2) []))) (kvs.foldl (fun l q => putK l q.1 q.2.2) []) (PySem.storedAllH [] prs) := (kt_fold rel .nil).keeps fun b ys e => by
      have : b ≠ s.heap.objs.size := fun z => by
        have f := I.hok.fresh (Nat.le_refl s.heap.objs.size)
        rw [z, f] at e; cases e
      unfold upd
      rw [if_neg this]
      exact e
    exact ⟨.ref s.heap.objs.size, upd H s.heap.objs.size (.dT (kvs.foldl (fun l q => putK l q.1 q.2.2) [])), I.laid (t' := tk) k' (Nat.le_refl _) ⟨hlen, hm, PySem.storedAllH [] prs, kt, o1, es, ep, g1, g2, g3, g4, g6⟩, rfl, q _ (I.hok.fresh (Nat.le_refl _))⟩
end
def pairsT : List PyData → Option (List (List Key × PyData))
  | [] => some []
  | .tuple [k, d] :: ds => match asDK k, pairsT ds with
    | some (.inr q), some r => if fineK (.inr q) = true then some ((q, d) :: r) else none
    | _, _ => none
  | _ => none
def dDict2 (d : PyData) : Option OV := match d with
  | .list ds => match pairsT ds with
    | some kvs => if ds.length ≤ sizeLine then some (.dt (kvs.foldl (fun l q => putG l q.1 (.sh q.2)) [])) else none
    | none => dDict (.list ds)
  | d => dDict d
section
variable {K : PySem.W.Frag} {H : Hg}
theorem pairsT_rp : ∀ {xs : List V} {ds : List PyData} {kvs : List (List Key × PyData)}, RpAll K H xs ds → pairsT ds = some kvs →
    ∃ (ps : List Addr) (vs : List (List Key × Addr × V)), xs = ps.map V.ref ∧ Paired (KvP K H.h) ps vs ∧ vs.map (·.1) = kvs.map (·.1) ∧ RpAll K H (vs.map (·.2.2)) (kvs.map (·.2))
  | [], [], kvs, .nil, h => by cases h; exact ⟨[], [], rfl, .nil, rfl, .nil⟩
  | x :: xs, d :: ds, kvs, .cons r t, h => by
    unfold pairsT at h
    split at h
    · rename_i e; cases e
    · rename_i k d' ds' e
      cases e
      split at h
      · rename_i q r' q1 q2
        split at h
        · rename_i hf
          cases h
          obtain ⟨ps, vs, e1, e2, e3, e4⟩ := pairsT_rp t q2
          obtain ⟨a, ys, rfl, ta, ra⟩ := r.sqT
          cases ra with
          | cons r1 ra =>
            cases ra with
            | cons r2 ra =>
              cases ra
              rw [asDK_inr q1] at r1
              obtain ⟨b, rfl, hb⟩ := rp_keyT r1 hf
              exact ⟨a :: ps, (q, b, _) :: vs, by rw [e1]; rfl, .cons ⟨ta, hb⟩ e2, by simp [e3], .cons r2 e4⟩
        · cases h
      · cases h
    · cases h
theorem fold_dt : ∀ {vs : List (List Key × Addr × V)} {kvs : List (List Key × PyData)}, vs.map (·.1) = kvs.map (·.1) → RpAll K H (vs.map (·.2.2)) (kvs.map (·.2)) → ∀ {ks : List (List Key)} {V0 : List V} {O0 : List OV}, ks.Nodup → ks.length = V0.length → OwnL K H V0 O0 [] →
    ∃ (ks' : List (List Key)) (V' : List V) (O' : List OV), ks'.Nodup ∧ ks'.length = V'.length ∧ OwnL K H V' O' [] ∧ vs.foldl (fun l q => putK l q.1 q.2.2) (ks.zip V0) = ks'.zip V' ∧ kvs.foldl (fun l q => putG l q.1 (.sh q.2)) (ks.zip O0) = ks'.zip O'
  | [], [], _, _, ks, V0, O0, nd, l, o => ⟨ks, V0, O0, nd, l, o, rfl, rfl⟩
  | v :: vs, kv :: kvs, em, r, ks, V0, O0, nd, l, o => by
    rw [List.map_cons, List.map_cons] at em
    obtain ⟨e1, e2⟩ := List.cons.inj em
    rw [List.map_cons, List.map_cons] at r
    cases r with
    | cons r1 r2 =>
      obtain ⟨ks', vs', os', cs, dr, nd', _, l', p1, p2, o', pm⟩ := ownL_put v.1 (.sh r1) nd l o
      have : cs = [] := by
        have := pm.length_eq
        simp at this
        exact this.1
      subst this
      obtain ⟨k2, V2, O2, a1, a2, a3, a4, a5⟩ := fold_dt e2 r2 nd' l' o'
      refine ⟨k2, V2, O2, a1, a2, a3, ?_, ?_⟩
      · rw [List.foldl_cons, putK_eq v.1 v.2.2 (by rw [zip_fst_map (fun x => x) ks V0 l]; simpa using nd), p1]; exact a4
      · rw [List.foldl_cons, ← e1, p2]; exact a5
theorem opn_dict2 : OpN K (fun xs H Q => rDictT K xs H Q ∨ ∃ (a : Addr) (ps : List Addr) (kvs : List (Key × V)), xs = [V.ref a] ∧ SqL K H a (ps.map V.ref) ∧ Paired (fun p (kv : Key × V) => SqT K H p [kV kv.1, kv.2]) ps kvs ∧
    ∀ p, H p = none → Q (.ref p) (upd H p (.dK (mergeK [] kvs)))) (g1 dDict2) := opN1 fun Hf its F H v d c Q s r h q => by
  have old : dDict d = some c → rDictT K [v] H Q ∨ ∃ (a : Addr) (ps : List Addr) (kvs : List (Key × V)), [v] = [V.ref a] ∧ SqL K H a (ps.map V.ref) ∧ Paired (fun p (kv : Key × V) => SqT K H p [kV kv.1, kv.2]) ps kvs ∧
      ∀ p, H p = none → Q (.ref p) (upd H p (.dK (mergeK [] kvs))) := fun h => .inr (opn_dict Hf its F H [v] [.sh d] c Q rfl (s.add r) (by show dDict (fz (.sh d)) = some c; rw [fz_sh]; exact h) q)
  cases d with
  | list ds =>
    unfold dDict2 at h
    simp only at h
    split at h
    · rename_i kvs hp
      split at h
      · cases h
        obtain ⟨a, xs, rfl, t1, r1⟩ := r.sqL
        obtain ⟨ps, vs, rfl, e2, e3, e4⟩ := pairsT_rp r1 hp
        have e2' : Paired (KvP K H) ps vs := Paired.mapP e2 fun _ _ z => ⟨s.sub.sqT z.1, (s.sub.1 _ _ z.2).elim id fun w => by obtain ⟨⟨_, e⟩ | ⟨_, e⟩, _⟩ := w <;> cases e⟩
        refine .inl ⟨a, ps, vs, rfl, s.sub.sqL t1, e2', fun p hp => q _ _ Hf (Same.refl _) ?_⟩
        obtain ⟨ks, V', O', nd, l, o, f1, f2⟩ := fold_dt e3 e4 (ks := []) (V0 := []) (O0 := []) .nil rfl .nil
        rw [List.zip_nil_left] at f1 f2
        rw [f1, f2]
        refine SX.newOwn (C := []) (its := its) s hp fun bs hbs => ?_
        cases hbs
        exact .dt l nd o
      · cases h
    · exact old h
  | _ => exact old h
theorem b_dict2 {X : Cx} {W : WX} {n : Nat} (G : Good X W n) (hm : X.mg "dict" = none) : BTy X "dict" "dict" (g1 dDict2) := ⟨⟨_, (call_dictT G.calm G.hu).or (call_dictP G.calm), opn_dict2⟩, hm, by decide +kernel⟩
end
section
variable {X : Cx} {W : WX} {a b : Expr} {fl : Rho → ReL} {fa fb : Rho → Re} {ap cp : Pos} {m : Nat}
end
section
variable {X : Cx} {W : WX} {a : Expr} {args : List Expr} {name : Str} {fa : Rho → Re} {fl : Rho → ReL} {ap cp : Pos} {g : Str → List PyData → Option OV} {r : V → List V → Hp → VK → Prop}
end
section
variable {X : Cx} {W : WX} {d k v : Expr} {fd fk fv : Rho → Re} {ap cp : Pos} {m : Nat}
end
section
variable {K : PySem.W.Frag} {Hf : Hg} {H : Hp} {its : Its} {F : Fr} {v y : V} {o : OV} {kvs : List (Key × OV)} {q : Key}
end
section
variable {X : Cx} {W : WX} {e a b c d : Expr} {es : List Expr} {fk : Rho → Re} {fl : Rho → ReL} {apos cpos : Pos} {name : Str} {T : String} {r : V → List V → Hp → VK → Prop} {g : OV → List OV → Option (OV × OV)}
end
section
variable {K : PySem.W.Frag} {Hf : Hg} {H : Hp} {its : Its} {F : Fr}
end
section
variable {K : PySem.W.Frag} {Hf : Hg} {H : Hp} {its : Its} {F : Fr}
end
section
variable {X : Cx} {W : WX} {a : Expr} {name : Str} {fa : Rho → Re} {ap cp : Pos} {g : Str → List PyData → Option OV} {r : V → List V → Hp → VK → Prop}
end
inductive R (α : Type) where
  | ok (a : α) | exc (e : Exn) | stk
def R.bind {α β : Type} (q : R α) (k : α → R β) : R β := match q with
  | .ok a => k a
  | .exc e => .exc e
  | .stk => .stk
inductive O (σ : Type) where
  | next (s : σ) | ret (o : OV) | exc (e : Exn) | stk
def O.bind {σ τ : Type} (q : O σ) (k : σ → O τ) : O τ := match q with
  | .next s => k s
  | .ret o => .ret o
  | .exc e => .exc e
  | .stk => .stk
def O.of {σ : Type} (q : R σ) : O σ := match q with
  | .ok s => .next s
  | .exc e => .exc e
  | .stk => .stk
def O.fin {σ : Type} (q : O σ) : R OV := match q with
  | .next _ => .ok (.sh .none)
  | .ret o => .ok o
  | .exc e => .exc e
  | .stk => .stk
section
variable {μ : List SO} {α β σ τ : Type} {q q' : R α} {f : α → R β} {e : Exn}
theorem R.bind_ok {a : α} : R.bind (.ok a) f = f a := nrfl rfl
theorem R.bind_exc : R.bind (.exc e) f = .exc e := nrfl rfl
theorem R.bind_stk : R.bind .stk f = .stk := nrfl rfl
theorem O.bind_next {s : σ} {f : σ → O τ} : O.bind (.next s) f = f s := nrfl rfl
theorem O.bind_ret {o : OV} {f : σ → O τ} : O.bind (.ret o) f = .ret o := nrfl rfl
theorem O.bind_exc {f : σ → O τ} : O.bind (.exc e) f = .exc e := nrfl rfl
theorem O.bind_stk {f : σ → O τ} : O.bind .stk f = .stk := nrfl rfl
theorem O.of_ok {s : σ} : O.of (.ok s) = .next s := nrfl rfl
theorem O.of_exc : O.of (.exc e : R σ) = .exc e := nrfl rfl
theorem O.of_stk : O.of (.stk : R σ) = .stk := nrfl rfl
theorem O.fin_next {s : σ} : O.fin (.next s) = .ok (.sh .none) := nrfl rfl
theorem O.fin_ret {o : OV} : O.fin (.ret o : O σ) = .ok o := nrfl rfl
theorem O.fin_exc : O.fin (.exc e : O σ) = .exc e := nrfl rfl
end
inductive Ps where
  | no | un | ex (o : OV) | fr (d : PyData)
abbrev Pat := List Ps
def Ps.ok : Ps → Option OV → Prop
  | .no, _ => True
  | .un, x => x = none
  | .ex o, x => x = some o
  | .fr d, x => ∃ o, x = some o ∧ fz o = d
def MtL : Pat → Sl → Prop
  | [], [] => True
  | s :: p, x :: ρ => s.ok x ∧ MtL p ρ
  | _, _ => False
theorem MtL.at : ∀ {p : Pat} {ρ : Sl} {i : Nat} {s : Ps}, MtL p ρ → p[i]? = some s → ∃ x, ρ[i]? = some x ∧ s.ok x
  | [], _, _, _, _, h => by simp at h
  | _ :: _, [], _, _, m, _ => m.elim
  | t :: p, x :: ρ, 0, s, m, h => by simp at h; subst h; exact ⟨x, rfl, m.1⟩
  | t :: p, x :: ρ, i + 1, s, m, h => by
    obtain ⟨y, h1, h2⟩ := MtL.at (i := i) (s := s) m.2 (by simpa using h)
    exact ⟨y, by simpa using h1, h2⟩
theorem MtL.set : ∀ {p : Pat} {ρ : Sl} (i : Nat) {s : Ps} {x : Option OV}, MtL p ρ → s.ok x → MtL (p.set i s) (ρ.set i x)
  | [], [], _, _, _, _, _ => trivial
  | [], _ :: _, _, _, _, m, _ => m.elim
  | _ :: _, [], _, _, _, m, _ => m.elim
  | t :: p, y :: ρ, 0, s, x, m, h => ⟨h, m.2⟩
  | t :: p, y :: ρ, i + 1, s, x, m, h => ⟨m.1, MtL.set i m.2 h⟩
def Mt (μ : List SO) (p : Pat) (ρ : Rho) : Prop := MtL p ρ.sl ∧ ρ.st = μ
theorem Mt.at {μ : List SO} {p : Pat} {ρ : Rho} {i : Nat} {s : Ps} (m : Mt μ p ρ) (h : p[i]? = some s) : ∃ x, ρ.sl[i]? = some x ∧ s.ok x := m.1.at h
theorem Mt.set {μ : List SO} {p : Pat} {ρ : Rho} (i : Nat) {s : Ps} {x : Option OV} (m : Mt μ p ρ) (h : s.ok x) : Mt μ (p.set i s) (ρ.set i x) := ⟨m.1.set i h, m.2⟩
theorem set_at {α : Type} : ∀ {l : List α} {i : Nat} {x : α}, l[i]? = some x → l.set i x = l
  | [], _, _, h => by simp at h
  | _ :: _, 0, _, h => by simp at h; subst h; rfl
  | _ :: _, i + 1, _, h => by
    have := set_at (i := i) (by simpa using h)
    simp [this]
inductive Ple : Pat → Pat → Prop
  | nil : Ple [] []
  | eq {s : Ps} {p q : Pat} : Ple p q → Ple (s :: p) (s :: q)
  | no {s : Ps} {p q : Pat} : Ple p q → Ple (s :: p) (.no :: q)
  | fr {o : OV} {p q : Pat} : Ple p q → Ple (.ex o :: p) (.fr (fz o) :: q)
  | fs {d : PyData} {p q : Pat} : Ple p q → Ple (.ex (.sh d) :: p) (.fr d :: q)
theorem Ple.rf : ∀ {p : Pat}, Ple p p
  | [] => .nil
  | _ :: _ => .eq .rf
theorem Ple.mtL : ∀ {p q : Pat} {ρ : Sl}, Ple p q → MtL p ρ → MtL q ρ
  | _, _, [], .nil, m => m
  | _, _, _ :: _, .nil, m => m.elim
  | _, _, [], .eq _, m => m.elim
  | _, _, [], .no _, m => m.elim
  | _, _, [], .fr _, m => m.elim
  | _, _, [], .fs _, m => m.elim
  | _, _, _ :: _, .eq h, m => ⟨m.1, h.mtL m.2⟩
  | _, _, _ :: _, .no h, m => ⟨trivial, h.mtL m.2⟩
  | _, _, _ :: _, .fr h, m => ⟨⟨_, m.1, rfl⟩, h.mtL m.2⟩
  | _, _, _ :: _, .fs h, m => ⟨⟨_, m.1, fz_sh⟩, h.mtL m.2⟩
theorem Ple.mt {μ : List SO} {p q : Pat} {ρ : Rho} (h : Ple p q) (m : Mt μ p ρ) : Mt μ q ρ := ⟨h.mtL m.1, m.2⟩
def jE (μ : List SO) (f : Rho → Re) (p : Pat) (q : R OV) (p' : Pat) : Prop := ∀ ρ, Mt μ p ρ → match q with
  | .ok o => ∃ ρ', f ρ = .ok o ρ' ∧ Mt μ p' ρ'
  | .exc e => ∃ ρ', f ρ = .exc e ρ' ∧ ρ'.st = μ
  | .stk => True
def jL (μ : List SO) (f : Rho → ReL) (p : Pat) (q : R (List OV)) (p' : Pat) : Prop := ∀ ρ, Mt μ p ρ → match q with
  | .ok o => ∃ ρ', f ρ = .ok o ρ' ∧ Mt μ p' ρ'
  | .exc e => ∃ ρ', f ρ = .exc e ρ' ∧ ρ'.st = μ
  | .stk => True
def jB (μ : List SO) (f : Rho → ReB) (p : Pat) (q : R Bool) (p' : Pat) : Prop := ∀ ρ, Mt μ p ρ → match q with
  | .ok o => ∃ ρ', f ρ = .ok o ρ' ∧ Mt μ p' ρ'
  | .exc e => ∃ ρ', f ρ = .exc e ρ' ∧ ρ'.st = μ
  | .stk => True
def jI (μ : List SO) (f : Rho → ReI) (p : Pat) (q : R (List PyData)) (p' : Pat) : Prop := ∀ ρ, Mt μ p ρ → match q with
  | .ok o => ∃ ρ', f ρ = .ok o ρ' ∧ Mt μ p' ρ'
  | .exc e => ∃ ρ', f ρ = .exc e ρ' ∧ ρ'.st = μ
  | .stk => True
def jT (μ : List SO) {τ : Type} (h : OV → Rho → Option Rho) (o : OV) (p : Pat) (q : R τ) (pt : τ → Pat) : Prop := ∀ ρ, Mt μ p ρ → match q with
  | .ok t => ∃ ρ', h o ρ = some ρ' ∧ Mt μ (pt t) ρ'
  | .exc _ => False
  | .stk => True
def jS (μ : List SO) {σ : Type} (g : Rho → Out) (p : Pat) (q : O σ) (st : σ → Pat) : Prop := ∀ ρ, Mt μ p ρ → match q with
  | .next s => ∃ ρ', g ρ = .next ρ' ∧ Mt μ (st s) ρ'
  | .ret o => ∃ ρ', g ρ = .ret o ρ' ∧ ρ'.st = μ
  | .exc e => ∃ ρ', g ρ = .exc e ρ' ∧ ρ'.st = μ
  | .stk => True
def jP (m : List PyData → List SO → Rv) (q : List PyData → R OV) : Prop := ∀ ds μ, match q ds with
  | .ok o => m ds μ = .ok o μ
  | .exc e => m ds μ = .exc e μ
  | .stk => True
section
variable {μ : List SO} {f fa fb fc : Rho → Re} {fl : Rho → ReL} {ta tb : Rho → ReB} {fi : Rho → ReI} {p p1 p2 p3 : Pat} {qa qb qc : R OV} {ql : R (List OV)} {qt qu : R Bool} {qi : R (List PyData)} {d : PyData} {o : OV} {i : Nat} {g g' : OV → OV → Option OV}
theorem j_c : jE μ (cC d) p (.ok (.sh d)) p := fun ρ m => ⟨ρ, rfl, m⟩
theorem j_vx (h : p[i]? = some (.ex o)) : jE μ (eV i) p (.ok (.sh (fz o))) (p.set i (.ex (.sh (fz o)))) := fun ρ m => by
  obtain ⟨x, h1, rfl⟩ := m.at h
  exact ⟨_, by unfold eV; rw [h1], m.set i rfl⟩
theorem j_v (h : p[i]? = some (.ex (.sh d))) : jE μ (eV i) p (.ok (.sh d)) p := fun ρ m => by
  obtain ⟨x, h1, rfl⟩ := m.at h
  have e : fz (.sh d) = d := fz_sh
  refine ⟨_, by unfold eV; simp only [h1, e]; rfl, ?_⟩
  have := m.set i (s := .ex (.sh d)) (x := some (.sh d)) rfl
  rw [set_at h] at this
  exact this
theorem j_vf (h : p[i]? = some (.fr d)) : jE μ (eV i) p (.ok (.sh d)) p := fun ρ m => by
  obtain ⟨x, h1, o, rfl, h2⟩ := m.at h
  refine ⟨_, by unfold eV; simp only [h1, h2]; rfl, ?_⟩
  have := m.set i (s := .fr d) (x := some (.sh d)) ⟨_, rfl, fz_sh⟩
  rw [set_at h] at this
  exact this
theorem j_m (h : p[i]? = some (.ex o)) : jE μ (eM i) p (.ok o) (p.set i .un) := fun ρ m => by
  obtain ⟨x, h1, rfl⟩ := m.at h
  exact ⟨_, by unfold eM; rw [h1], m.set i rfl⟩
def ofOR (x : Option OV) : R OV := match x with
  | some c => .ok c
  | none => .stk
def ofPR (x : Option PyData) : R OV := match x with
  | some c => .ok (.sh c)
  | none => .stk
theorem ofOR_some : ofOR (some o) = .ok o := nrfl rfl
theorem ofPR_some : ofPR (some d) = .ok (.sh d) := nrfl rfl
theorem j_bin (ha : jE μ fa p qa p1) (hb : jE μ fb p1 qb p2) : jE μ (eBin g fa fb) p (qa.bind fun a => qb.bind fun b => ofOR (g a b)) p2 := fun ρ m => by
  have h1 := ha ρ m
  unfold eBin
  cases qa with
  | stk => trivial
  | exc e => obtain ⟨ρ', a, zs⟩ := h1; exact ⟨ρ', by rw [a]; rfl, zs⟩
  | ok a =>
    obtain ⟨ρ1, a1, m1⟩ := h1
    have h2 := hb ρ1 m1
    rw [a1]
    cases qb with
    | stk => trivial
    | exc e => obtain ⟨ρ', a, zs⟩ := h2; exact ⟨ρ', by simp only [bindE, a], zs⟩
    | ok b =>
      obtain ⟨ρ2, a2, m2⟩ := h2
      simp only [bindE, a2, R.bind]
      cases g a b with
      | none => trivial
      | some c => exact ⟨ρ2, rfl, m2⟩
theorem j_lnil : jL μ lNil p (.ok []) p := fun ρ m => ⟨ρ, rfl, m⟩
theorem j_lcons (ha : jE μ f p qa p1) (hb : jL μ fl p1 ql p2) : jL μ (lCons f fl) p (qa.bind fun a => ql.bind fun l => .ok (a :: l)) p2 := fun ρ m => by
  have h1 := ha ρ m
  unfold lCons
  cases qa with
  | stk => trivial
  | exc e => obtain ⟨ρ', a, zs⟩ := h1; exact ⟨ρ', by rw [a]; rfl, zs⟩
  | ok a =>
    obtain ⟨ρ1, a1, m1⟩ := h1
    have h2 := hb ρ1 m1
    rw [a1]
    cases ql with
    | stk => trivial
    | exc e => obtain ⟨ρ', a, zs⟩ := h2; exact ⟨ρ', by simp only [bindEL, bindLL, a], zs⟩
    | ok b =>
      obtain ⟨ρ2, a2, m2⟩ := h2
      exact ⟨ρ2, by simp only [bindEL, bindLL, a2], m2⟩
theorem jL.bind {k : List OV → R OV} {kk : List OV → Rho → Re} (h : jL μ fl p ql p1) (hk : ∀ os, jE μ (kk os) p1 (k os) p1) : jE μ (fun ρ => bindL (fl ρ) kk) p (ql.bind k) p1 := fun ρ m => by
  have h1 := h ρ m
  cases ql with
  | stk => trivial
  | exc e => obtain ⟨ρ', a, zs⟩ := h1; exact ⟨ρ', by simp only [a]; rfl, zs⟩
  | ok os =>
    obtain ⟨ρ1, a1, m1⟩ := h1
    have := hk os ρ1 m1
    simp only [a1, bindL, R.bind]
    exact this
def szR {α : Type} (n : Nat) (x : α) : R α := if n ≤ sizeLine then .ok x else .stk
theorem j_tup (h : jL μ fl p ql p1) : jE μ (eTup fl) p (ql.bind fun os => szR os.length (.sh (.tuple (os.map fz)))) p1 := jL.bind h fun os ρ m => by
  unfold szR
  by_cases q : os.length ≤ sizeLine
  · simp only [if_pos q]; exact ⟨ρ, rfl, m⟩
  · simp only [if_neg q]
theorem j_lst (h : jL μ fl p ql p1) : jE μ (eLst fl) p (ql.bind fun os => szR os.length (.lst os)) p1 := jL.bind h fun os ρ m => by
  unfold szR
  by_cases q : os.length ≤ sizeLine
  · simp only [if_pos q]; exact ⟨ρ, rfl, m⟩
  · simp only [if_neg q]
theorem j_fn {g : List OV → Option OV} (h : jL μ fl p ql p1) : jE μ (eFn g fl) p (ql.bind fun os => ofOR (g os)) p1 := jL.bind h fun os ρ m => by
  cases g os with
  | none => trivial
  | some c => exact ⟨ρ, rfl, m⟩
theorem j_call {mm : List PyData → List SO → Rv} {qq : List PyData → R OV} (hc : jP mm qq) (h : jL μ fl p ql p1) : jE μ (eCall mm fl) p (ql.bind fun os => qq (os.map fz)) p1 := jL.bind h fun os ρ m => by
  have := hc (os.map fz) ρ.st
  generalize qq (os.map fz) = z at this
  cases z with
  | stk => trivial
  | exc e => exact ⟨ρ, by simp only [this, ofRv], m.2⟩
  | ok a => exact ⟨ρ, by simp only [this, ofRv], m⟩
def toBR (o : OV) : R Bool := match o with
  | .sh (.bool b) => .ok b
  | _ => .stk
theorem toBR_b {b : Bool} : toBR (.sh (.bool b)) = .ok b := nrfl rfl
theorem j_test (h : jE μ f p qa p1) : jB μ (eTest f) p (qa.bind toBR) p1 := fun ρ m => by
  have h1 := h ρ m
  unfold eTest
  cases qa with
  | stk => trivial
  | exc e => obtain ⟨ρ', a, zs⟩ := h1; exact ⟨ρ', by rw [a]; rfl, zs⟩
  | ok a =>
    obtain ⟨ρ1, a1, m1⟩ := h1
    simp only [a1, bindEB, R.bind]
    cases a with
    | sh d => cases d <;> first | trivial | exact ⟨ρ1, rfl, m1⟩
    | lst _ => trivial
    | dk _ => trivial
    | dt _ => trivial
    | tup _ => trivial
theorem jB.bind {α : Type} {k : Bool → R Bool} {kk : Bool → Rho → ReB} (h : jB μ ta p qt p1) (hk : ∀ os, jB μ (kk os) p1 (k os) p2) : jB μ (fun ρ => bindBB (ta ρ) kk) p (qt.bind k) p2 := fun ρ m => by
  have h1 := h ρ m
  cases qt with
  | stk => trivial
  | exc e => obtain ⟨ρ', a, zs⟩ := h1; exact ⟨ρ', by simp only [a]; rfl, zs⟩
  | ok os =>
    obtain ⟨ρ1, a1, m1⟩ := h1
    have := hk os ρ1 m1
    simp only [a1, bindBB, R.bind]
    exact this
theorem j_not (h : jB μ ta p qt p1) : jB μ (bNot ta) p (qt.bind fun b => .ok (!b)) p1 := jB.bind (α := Bool) h fun b ρ m => ⟨ρ, rfl, m⟩
theorem j_band (ha : jB μ ta p qt p1) (hb : jB μ tb p1 qu p2) (l : Ple p1 p2) : jB μ (bAnd ta tb) p (qt.bind fun b => if b = true then qu else .ok false) p2 := jB.bind (α := Bool) ha fun b => by
  cases b with
  | true => exact hb
  | false => exact fun ρ m => ⟨ρ, rfl, l.mt m⟩
theorem j_bor (ha : jB μ ta p qt p1) (hb : jB μ tb p1 qu p2) (l : Ple p1 p2) : jB μ (bOr ta tb) p (qt.bind fun b => if b = true then .ok true else qu) p2 := jB.bind (α := Bool) ha fun b => by
  cases b with
  | false => exact hb
  | true => exact fun ρ m => ⟨ρ, rfl, l.mt m⟩
def andR (o : OV) (q : R OV) : R OV := match o with
  | .sh (.bool true) => q
  | .sh (.bool false) => .ok (.sh (.bool false))
  | _ => .stk
def orR (o : OV) (q : R OV) : R OV := match o with
  | .sh (.bool true) => .ok (.sh (.bool true))
  | .sh (.bool false) => q
  | _ => .stk
theorem andR_b {b : Bool} {q : R OV} : andR (.sh (.bool b)) q = if b = true then q else .ok (.sh (.bool false)) := by cases b <;> rfl
theorem orR_b {b : Bool} {q : R OV} : orR (.sh (.bool b)) q = if b = true then .ok (.sh (.bool true)) else q := by cases b <;> rfl
theorem jE.bind {k : OV → R OV} {kk : OV → Rho → Re} (h : jE μ f p qa p1) (hk : ∀ o, jE μ (kk o) p1 (k o) p2) : jE μ (fun ρ => bindE (f ρ) kk) p (qa.bind k) p2 := fun ρ m => by
  have h1 := h ρ m
  cases qa with
  | stk => trivial
  | exc e => obtain ⟨ρ', a, zs⟩ := h1; exact ⟨ρ', by simp only [a]; rfl, zs⟩
  | ok os =>
    obtain ⟨ρ1, a1, m1⟩ := h1
    have := hk os ρ1 m1
    simp only [a1, bindE, R.bind]
    exact this
theorem j_and (ha : jE μ fa p qa p1) (hb : jE μ fb p1 qb p2) (l : Ple p1 p2) : jE μ (eAnd fa fb) p (qa.bind fun o => andR o qb) p2 := jE.bind ha fun o ρ m => by
  cases o with
  | sh d =>
    cases d with
    | bool b =>
      cases b with
      | true => exact hb ρ m
      | false => exact ⟨ρ, rfl, l.mt m⟩
    | _ => trivial
  | _ => trivial
def chR (c : Option OV) (q : R OV) : R OV := match c with
  | some (.sh (.bool true)) => q
  | some (.sh (.bool false)) => .ok (.sh (.bool false))
  | _ => .stk
theorem chR_b {b : Bool} {q : R OV} : chR (some (.sh (.bool b))) q = if b = true then q else .ok (.sh (.bool false)) := by cases b <;> rfl
theorem j_chain (ha : jE μ fa p qa p1) (hb : jE μ fb p1 qb p2) (hc : jE μ fc p2 qc p3) (l : Ple p2 p3) : jE μ (eChain g g' fa fb fc) p (qa.bind fun a => qb.bind fun b => chR (g a b) (qc.bind fun c => ofOR (g' b c))) p3 := jE.bind ha fun a => jE.bind hb fun b ρ m => by
  cases g a b with
  | none => trivial
  | some c =>
    cases c with
    | sh d =>
      cases d with
      | bool b' =>
        cases b' with
        | true =>
          have := jE.bind (kk := fun z ρ3 => ofO (g' b z) ρ3) hc (k := fun c => ofOR (g' b c)) (p2 := p3) (fun z ρ m => by
              show match ofOR (g' b z) with | .ok o => _ | .exc e => _ | .stk => _
              unfold ofOR
              cases g' b z with
              | none => trivial
              | some c => exact ⟨ρ, rfl, m⟩) ρ m
          exact this
        | false => exact ⟨ρ, rfl, l.mt m⟩
      | _ => trivial
    | _ => trivial
def Ps.dat : Ps → Option PyData
  | .ex o => some (fz o)
  | .fr d => some d
  | _ => none
theorem Ps.dat_ok {s : Ps} {x : Option OV} {d : PyData} (h : s.dat = some d) (k : s.ok x) : ∃ o, x = some o ∧ fz o = d := by
  cases s with
  | ex o => cases h; exact ⟨o, k, rfl⟩
  | fr d => cases h; exact k
  | no => cases h
  | un => cases h
theorem j_bR {g : PyData → PyData → Option PyData} {s : Ps} (ha : jE μ fa p qa p1) (h : p1[i]? = some s) (hs : s.dat = some d) : jE μ (eBR g fa i) p (qa.bind fun a => ofPR (g (fz a) d)) p1 := jE.bind ha fun a ρ m => by
  obtain ⟨x, h1, h2⟩ := m.at h
  obtain ⟨o, rfl, rfl⟩ := Ps.dat_ok hs h2
  simp only [h1]
  unfold ofPR ofP
  cases g (fz a) (fz o) with
  | none => trivial
  | some c => exact ⟨ρ, rfl, m⟩
theorem j_b1 {g : PyData → Option PyData} {s : Ps} (h : p[i]? = some s) (hs : s.dat = some d) : jE μ (eB1 g i) p (ofPR (g d)) p := fun ρ m => by
  obtain ⟨x, h1, h2⟩ := m.at h
  obtain ⟨o, rfl, rfl⟩ := Ps.dat_ok hs h2
  unfold eB1 ofPR
  simp only [h1]
  cases g (fz o) with
  | none => trivial
  | some c => exact ⟨ρ, rfl, m⟩
def iR (o : OV) : R Int := match o with
  | .sh (.int i) => .ok i
  | _ => .stk
theorem iR_i {i : Int} : iR (.sh (.int i)) = .ok i := nrfl rfl
def jO (μ : List SO) (f : Option (Rho → Re)) (p : Pat) (q : R (Option Int)) (p' : Pat) : Prop := ∀ ρ, Mt μ p ρ → match q with
  | .ok o => ∃ ρ', (∀ k : Option Int → Rho → Re, partR f ρ k = k o ρ') ∧ Mt μ p' ρ'
  | .exc e => ∃ ρ', (∀ k : Option Int → Rho → Re, partR f ρ k = .exc e ρ') ∧ ρ'.st = μ
  | .stk => True
theorem j_ono : jO μ none p (.ok none) p := fun ρ m => ⟨ρ, fun k => rfl, m⟩
theorem j_osome (h : jE μ f p qa p1) : jO μ (some f) p (qa.bind fun o => (iR o).bind fun i => .ok (some i)) p1 := fun ρ m => by
  have h1 := h ρ m
  cases qa with
  | stk => trivial
  | exc e => obtain ⟨ρ', a, zs⟩ := h1; exact ⟨ρ', fun k => by simp only [partR, a]; rfl, zs⟩
  | ok o =>
    obtain ⟨ρ1, a1, m1⟩ := h1
    cases o with
    | sh d =>
      cases d with
      | int i => exact ⟨ρ1, fun k => by simp only [partR, a1, bindE], m1⟩
      | _ => trivial
    | _ => trivial
theorem j_sl {lo hi : Option (Rho → Re)} {ql qh : R (Option Int)} (ha : jE μ fa p qa p1) (hl : jO μ lo p1 ql p2) (hh : jO μ hi p2 qh p3) : jE μ (eSl fa lo hi) p (qa.bind fun a => ql.bind fun l => qh.bind fun h => ofOR (gSl a l h)) p3 := jE.bind ha fun a ρ m => by
  have h1 := hl ρ m
  cases ql with
  | stk => trivial
  | exc e => obtain ⟨ρ', a, zs⟩ := h1; exact ⟨ρ', a _, zs⟩
  | ok l =>
    obtain ⟨ρ1, a1, m1⟩ := h1
    have h2 := hh ρ1 m1
    simp only [a1, R.bind]
    cases qh with
    | stk => trivial
    | exc e => obtain ⟨ρ', a, zs⟩ := h2; exact ⟨ρ', a _, zs⟩
    | ok u =>
      obtain ⟨ρ2, a2, m2⟩ := h2
      simp only [a2]
      unfold ofOR
      cases gSl a l u with
      | none => trivial
      | some c => exact ⟨ρ2, rfl, m2⟩
theorem j_dT : jE μ eDT p (.ok (.dt [])) p := fun ρ m => ⟨ρ, rfl, m⟩
def noX {α : Type} (q : R α) : R α := match q with
  | .exc _ => .stk
  | q => q
theorem noX_ok {α : Type} {a : α} : noX (.ok a) = .ok a := nrfl rfl
end
def nd (l : List PyData) (i : Nat) : PyData := l.getD i .none
theorem nd0 {a : PyData} {l : List PyData} : nd (a :: l) 0 = a := nrfl rfl
theorem nd1 {a b : PyData} {l : List PyData} : nd (a :: b :: l) 1 = b := nrfl rfl
theorem nd2 {a b c : PyData} {l : List PyData} : nd (a :: b :: c :: l) 2 = c := nrfl rfl
theorem nd3 {a b c d : PyData} {l : List PyData} : nd (a :: b :: c :: d :: l) 3 = d := nrfl rfl
theorem nd4 {a b c d e : PyData} {l : List PyData} : nd (a :: b :: c :: d :: e :: l) 4 = e := nrfl rfl
theorem nd5 {a b c d e f : PyData} {l : List PyData} : nd (a :: b :: c :: d :: e :: f :: l) 5 = f := nrfl rfl
theorem nd6 {a b c d e f g : PyData} {l : List PyData} : nd (a :: b :: c :: d :: e :: f :: g :: l) 6 = g := nrfl rfl
def unT (n : Nat) (d : PyData) : R (List PyData) := match d with
  | .tuple ds => if ds.length = n then .ok ds else .stk
  | .list ds => if ds.length = n then .ok ds else .stk
  | _ => .stk
theorem unT_t {n : Nat} {ds : List PyData} (h : ds.length = n) : unT n (.tuple ds) = .ok ds := if_pos h
section
variable {μ : List SO} {p p1 p2 p3 pc : Pat} {i n k : Nat} {o : OV} {h : OV → Rho → Option Rho} {hs : List PyData → Rho → Option Rho} {t : List PyData}
theorem jt_name : jT μ (hName i) o p (.ok ()) (fun _ => p.set i (.ex o)) := fun ρ m => ⟨_, rfl, m.set i rfl⟩
def jTs (μ : List SO) (n k : Nat) (hs : List PyData → Rho → Option Rho) (t : List PyData) (p p' : Pat) : Prop := t.length = n → ∀ ρ, Mt μ p ρ → ∃ ρ', hs (t.drop k) ρ = some ρ' ∧ Mt μ p' ρ'
theorem jts_nil : jTs μ n n hNil t p p := fun hl ρ m => ⟨ρ, by rw [List.drop_of_length_le (by omega)]; rfl, m⟩
theorem jts_cons (hk : k < n) (h : jTs μ n (k + 1) hs t (p.set i (.ex (.sh (nd t k)))) p1) : jTs μ n k (hCons (hName i) hs) t p p1 := fun hl ρ m => by
  have e : t.drop k = nd t k :: t.drop (k + 1) := by
    have hk' : k < t.length := by omega
    rw [List.drop_eq_getElem_cons hk']
    unfold nd
    rw [List.getD_eq_getElem?_getD, List.getElem?_eq_getElem hk']; rfl
  obtain ⟨ρ', h1, h2⟩ := h hl _ (m.set i (s := .ex (.sh (nd t k))) (x := some (.sh (nd t k))) rfl)
  refine ⟨ρ', ?_, h2⟩
  rw [e]
  exact h1
theorem jt_tup {pt : List PyData → Pat} (h : ∀ t, jTs μ n 0 hs t p (pt t)) : jT μ (hTup n hs) o p (unT n (fz o)) pt := fun ρ m => by
  unfold unT hTup
  generalize fz o = d
  cases d with
  | tuple ds =>
    by_cases q : ds.length = n
    · obtain ⟨ρ', h1, h2⟩ := h ds q ρ m
      simp only [if_pos q]
      exact ⟨ρ', h1, h2⟩
    · simp only [if_neg q]
  | list ds =>
    by_cases q : ds.length = n
    · obtain ⟨ρ', h1, h2⟩ := h ds q ρ m
      simp only [if_pos q]
      exact ⟨ρ', h1, h2⟩
    · simp only [if_neg q]
  | _ => trivial
end
def itR (o : OV) : R (List PyData) := match itemsOf (fz o) with
  | some ds => .ok ds
  | none => .stk
def rng1R (o : OV) : R (List PyData) := match o with
  | .sh (.int j) => if rngOk j = true then .ok (upto 0 j.toNat) else .stk
  | _ => .stk
def rng2R (os : List OV) : R (List PyData) := match os with
  | [.sh (.int i), .sh (.int j)] => if (rngOk i && rngOk j) = true then .ok (upto i (j - i).toNat) else .stk
  | _ => .stk
def rng3R (os : List OV) : R (List PyData) := match os with
  | [.sh (.int i), .sh (.int j), .sh (.int c)] => if stepOk i j c = true then .ok (stepD i c (Builtin.Range.rangeSize i j c).toNat) else .stk
  | _ => .stk
section
variable {μ : List SO} {f : Rho → Re} {fl : Rho → ReL} {p p1 : Pat} {q : R OV} {ql : R (List OV)}
theorem j_ival (h : jE μ f p q p1) : jI μ (iVal f) p (q.bind itR) p1 := fun ρ m => by
  have h1 := h ρ m
  cases q with
  | stk => trivial
  | exc e => obtain ⟨ρ', a, zs⟩ := h1; exact ⟨ρ', by unfold iVal; rw [a], zs⟩
  | ok o =>
    obtain ⟨ρ1, a1, m1⟩ := h1
    simp only [R.bind]
    unfold itR iVal
    rw [a1]
    cases e : itemsOf (fz o) with
    | none => trivial
    | some ds => exact ⟨ρ1, by simp only [e], m1⟩
theorem j_irange1 (h : jE μ f p q p1) : jI μ (iRange1 f) p (q.bind rng1R) p1 := fun ρ m => by
  have h1 := h ρ m
  cases q with
  | stk => trivial
  | exc e => obtain ⟨ρ', a, zs⟩ := h1; exact ⟨ρ', by unfold iRange1; rw [a], zs⟩
  | ok o =>
    obtain ⟨ρ1, a1, m1⟩ := h1
    simp only [R.bind]
    unfold rng1R iRange1
    rw [a1]
    cases o with
    | sh d =>
      cases d with
      | int j =>
        by_cases c : rngOk j = true
        · simp only [if_pos c]; exact ⟨ρ1, rfl, m1⟩
        · simp only [if_neg c]
      | _ => trivial
    | _ => trivial
theorem j_irange2 (h : jL μ fl p ql p1) : jI μ (iRange2 fl) p (ql.bind rng2R) p1 := fun ρ m => by
  have h1 := h ρ m
  cases ql with
  | stk => trivial
  | exc e => obtain ⟨ρ', a, zs⟩ := h1; exact ⟨ρ', by unfold iRange2; rw [a], zs⟩
  | ok o =>
    obtain ⟨ρ1, a1, m1⟩ := h1
    simp only [R.bind]
    unfold iRange2
    rw [a1]
    by_cases z : ∃ i j, o = [.sh (.int i), .sh (.int j)]
    · obtain ⟨i, j, rfl⟩ := z
      by_cases c : (rngOk i && rngOk j) = true
      · simp only [rng2R, if_pos c]; exact ⟨ρ1, rfl, m1⟩
      · simp only [rng2R, if_neg c]
    · have e : rng2R o = .stk := by
        unfold rng2R
        split
        · exact absurd ⟨_, _, rfl⟩ z
        · rfl
      rw [e]; trivial
theorem j_irange3 (h : jL μ fl p ql p1) : jI μ (iRange3 fl) p (ql.bind rng3R) p1 := fun ρ m => by
  have h1 := h ρ m
  cases ql with
  | stk => trivial
  | exc e => obtain ⟨ρ', a, zs⟩ := h1; exact ⟨ρ', by unfold iRange3; rw [a], zs⟩
  | ok o =>
    obtain ⟨ρ1, a1, m1⟩ := h1
    simp only [R.bind]
    unfold iRange3
    rw [a1]
    by_cases z : ∃ i j k, o = [.sh (.int i), .sh (.int j), .sh (.int k)]
    · obtain ⟨i, j, k, rfl⟩ := z
      by_cases c : stepOk i j k = true
      · simp only [rng3R, if_pos c]; exact ⟨ρ1, rfl, m1⟩
      · simp only [rng3R, if_neg c]
    · have e : rng3R o = .stk := by
        unfold rng3R
        split
        · exact absurd ⟨_, _, _, rfl⟩ z
        · rfl
      rw [e]; trivial
end
def noP : List Nat → Pat → Pat
  | [], p => p
  | i :: is, p => noP is (p.set i .no)
section
variable {μ : List SO}
theorem fgt_mt : ∀ (vs : List Nat) {p : Pat} {ρ : Rho}, Mt μ p ρ → Mt μ (noP vs p) (fgt vs ρ)
  | [], _, _, m => m
  | i :: is, _, _, m => fgt_mt is (m.set i trivial)
def relP : List Nat → Pat → Pat → Pat
  | [], _, p => p
  | i :: is, p0, p => match p0[i]? with
    | some (.ex (.sh d)) => relP is p0 (p.set i (.ex (.sh d)))
    | _ => relP is p0 (p.set i .no)
theorem MtL.no : ∀ {p : Pat} {ρ : Sl} (i : Nat), MtL p ρ → MtL (p.set i .no) ρ
  | [], [], _, m => m
  | [], _ :: _, _, m => m.elim
  | _ :: _, [], _, m => m.elim
  | t :: p, y :: ρ, 0, m => ⟨trivial, m.2⟩
  | t :: p, y :: ρ, i + 1, m => ⟨m.1, MtL.no i m.2⟩
theorem Mt.no {p : Pat} {ρ : Rho} (i : Nat) (m : Mt μ p ρ) : Mt μ (p.set i .no) ρ := ⟨m.1.no i, m.2⟩
theorem relay_mt : ∀ (vs : List Nat) {p0 p : Pat} {ρ0 ρ : Rho}, Mt μ p0 ρ0 → Mt μ p ρ → Mt μ (relP vs p0 p) (relay vs ρ0 ρ)
  | [], _, _, _, _, _, m => m
  | i :: is, p0, p, ρ0, ρ, m0, m => by
    unfold relP relay
    split
    · rename_i d h
      obtain ⟨x, h1, rfl⟩ := m0.at h
      rw [h1]
      exact relay_mt is m0 (m.set i rfl)
    · split
      · exact relay_mt is m0 (m.set i trivial)
      · exact relay_mt is m0 (m.no i)
end
def lcR (f : PyData → R (Option OV)) : List PyData → R (List OV)
  | [] => .ok []
  | d :: ds => match f d with
    | .ok (some o) => (match lcR f ds with
      | .ok os => .ok (o :: os)
      | _ => .stk)
    | .ok none => lcR f ds
    | _ => .stk
def jK (μ : List SO) (vs : List Nat) (h : OV → Rho → Option Rho) (tt : Rho → ReB) (te : Rho → Re) (d : PyData) (pc : Pat) (q : R (Option OV)) : Prop := ∀ ρ, Mt μ pc ρ → match q with
  | .ok none => ∃ ρ1 ρ2, h (.sh d) ρ = some ρ1 ∧ tt ρ1 = .ok false ρ2 ∧ Mt μ pc (fgt vs ρ2)
  | .ok (some o) => ∃ ρ1 ρ2 ρ3, h (.sh d) ρ = some ρ1 ∧ tt ρ1 = .ok true ρ2 ∧ te ρ2 = .ok o ρ3 ∧ Mt μ pc (fgt vs ρ3)
  | _ => True
section
variable {μ : List SO} {p p1 p2 p3 pc : Pat} {i n k : Nat} {o : OV} {vs : List Nat} {h : OV → Rho → Option Rho} {tt : Rho → ReB} {te : Rho → Re} {d : PyData} {fi : Rho → ReI} {qi : R (List PyData)}
theorem j_turn {τ : Type} {qt : R τ} {pt pb pe : τ → Pat} {qb : τ → R Bool} {qe : τ → R OV} (ht : jT μ h (.sh d) pc qt pt) (hb : ∀ t, jB μ tt (pt t) (qb t) (pb t)) (he : ∀ t, jE μ te (pb t) (qe t) (pe t)) (l1 : ∀ t, Ple (noP vs (pb t)) pc) (l2 : ∀ t, Ple (noP vs (pe t)) pc) :
    jK μ vs h tt te d pc (qt.bind fun t => (qb t).bind fun b => if b = true then (qe t).bind fun o => .ok (some o) else .ok none) := fun ρ m => by
  have h1 := ht ρ m
  cases qt with
  | stk => trivial
  | exc e => exact h1.elim
  | ok t =>
    obtain ⟨ρ1, a1, m1⟩ := h1
    have h2 := hb t ρ1 m1
    simp only [R.bind]
    generalize qb t = z at h2
    cases z with
    | stk => trivial
    | exc e => trivial
    | ok b =>
      obtain ⟨ρ2, a2, m2⟩ := h2
      cases b with
      | false => exact ⟨ρ1, ρ2, a1, a2, (l1 t).mt (fgt_mt vs m2)⟩
      | true =>
        have h3 := he t ρ2 m2
        simp only [if_true]
        generalize qe t = z at h3
        cases z with
        | stk => trivial
        | exc e => trivial
        | ok o =>
          obtain ⟨ρ3, a3, m3⟩ := h3
          exact ⟨ρ1, ρ2, ρ3, a1, a2, a3, (l2 t).mt (fgt_mt vs m3)⟩
theorem j_turn1 {τ : Type} {qt : R τ} {pt pe : τ → Pat} {qe : τ → R OV} (ht : jT μ h (.sh d) pc qt pt) (he : ∀ t, jE μ te (pt t) (qe t) (pe t)) (l2 : ∀ t, Ple (noP vs (pe t)) pc) :
    jK μ vs h tYesR te d pc (qt.bind fun t => (qe t).bind fun o => .ok (some o)) := fun ρ m => by
  have h1 := ht ρ m
  cases qt with
  | stk => trivial
  | exc e => exact h1.elim
  | ok t =>
    obtain ⟨ρ1, a1, m1⟩ := h1
    have h3 := he t ρ1 m1
    simp only [R.bind]
    generalize qe t = z at h3
    cases z with
    | stk => trivial
    | exc e => trivial
    | ok o =>
      obtain ⟨ρ3, a3, m3⟩ := h3
      exact ⟨ρ1, ρ1, ρ3, a1, rfl, a3, (l2 t).mt (fgt_mt vs m3)⟩
theorem j_turnN {pb pe : Pat} {qb : R Bool} {qe : R OV} (hb : jB μ tt (pc.set i (.ex (.sh d))) qb pb) (he : jE μ te pb qe pe) (l1 : Ple (noP vs pb) pc) (l2 : Ple (noP vs pe) pc) :
    jK μ vs (hName i) tt te d pc (qb.bind fun b => if b = true then qe.bind fun o => .ok (some o) else .ok none) := j_turn (qt := .ok ()) (qb := fun _ => qb) (qe := fun _ => qe) jt_name (fun _ => hb) (fun _ => he) (fun _ => l1) (fun _ => l2)
theorem j_turn1N {pe : Pat} {qe : R OV} (he : jE μ te (pc.set i (.ex (.sh d))) qe pe) (l2 : Ple (noP vs pe) pc) :
    jK μ vs (hName i) tYesR te d pc (qe.bind fun o => .ok (some o)) := j_turn1 (qt := .ok ()) (qe := fun _ => qe) jt_name (fun _ => he) (fun _ => l2)
theorem compL_mt {qk : PyData → R (Option OV)} (hk : ∀ d, jK μ vs h tt te d pc (qk d)) : ∀ (ds : List PyData) (os : List OV) (k : Nat) (ρ : Rho), lcR qk ds = .ok os → k + os.length ≤ sizeLine → Mt μ pc ρ → ∃ ρ', compL vs h tt te ds k ρ = .ok os ρ' ∧ Mt μ pc ρ'
  | [], os, k, ρ, e, _, m => by
    unfold lcR at e; cases e
    exact ⟨ρ, rfl, m⟩
  | d :: ds, os, k, ρ, e, l, m => by
    have h1 := hk d ρ m
    unfold lcR at e
    unfold compL
    generalize qk d = z at h1 e
    cases z with
    | stk => cases e
    | exc x => cases e
    | ok x =>
      cases x with
      | none =>
        obtain ⟨ρ1, ρ2, a1, a2, m2⟩ := h1
        obtain ⟨ρ', b1, b2⟩ := compL_mt hk ds os k _ e l m2
        exact ⟨ρ', by simp only [a1, a2]; exact b1, b2⟩
      | some o =>
        obtain ⟨ρ1, ρ2, ρ3, a1, a2, a3, m3⟩ := h1
        simp only at e
        cases q : lcR qk ds with
        | stk => rw [q] at e; cases e
        | exc x => rw [q] at e; cases e
        | ok os2 =>
          rw [q] at e
          cases e
          rw [List.length_cons] at l
          obtain ⟨ρ', b1, b2⟩ := compL_mt hk ds os2 (k + 1) _ q (by omega) m3
          exact ⟨ρ', by simp only [a1, a2, a3]; rw [if_pos (by omega)]; simp only [b1], b2⟩
theorem lcR_noexc {qk : PyData → R (Option OV)} : ∀ {ds : List PyData} {e : Exn}, lcR qk ds ≠ .exc e
  | [], _, h => by unfold lcR at h; cases h
  | d :: ds, e, h => by
    unfold lcR at h
    split at h
    · split at h <;> cases h
    · exact lcR_noexc h
    · cases h
theorem j_lc {qk : PyData → R (Option OV)} (hi : jI μ fi p qi p1) (l : Ple (noP vs p1) pc) (hk : ∀ d, jK μ vs h tt te d pc (qk d)) : jE μ (eLc vs fi h tt te) p (qi.bind fun ds => (lcR qk ds).bind fun os => szR os.length (.lst os)) (relP vs p1 pc) := fun ρ m => by
  have h1 := hi ρ m
  cases qi with
  | stk => trivial
  | exc e => obtain ⟨ρ', a, zs⟩ := h1; exact ⟨ρ', by unfold eLc; rw [a], zs⟩
  | ok ds =>
    obtain ⟨ρ1, a1, m1⟩ := h1
    simp only [R.bind]
    unfold eLc
    rw [a1]
    cases q : lcR qk ds with
    | stk => trivial
    | exc e => exact absurd q lcR_noexc
    | ok os =>
      simp only
      unfold szR
      by_cases c : os.length ≤ sizeLine
      · obtain ⟨ρ', b1, b2⟩ := compL_mt hk ds os 0 (fgt vs ρ1) q (by omega) (l.mt (fgt_mt vs m1))
        simp only [if_pos c, b1]
        exact ⟨_, rfl, relay_mt vs m1 b2⟩
      · simp only [if_neg c]
end
def ownR (T : String) (x : OV) : R Unit := if ownT x = T then .ok () else .stk
def mutR (g : OV → List OV → Option (OV × OV)) (x : OV) (os : List OV) : R (OV × OV) := match g x os with
  | some r => .ok r
  | none => .stk
def setR (x k o : OV) : R OV := match setO x (fz k) o with
  | some c => .ok c
  | none => .stk
def subR (x k : OV) : R OV := match subO x (fz k) with
  | some c => .ok c
  | none => .stk
def par2R (os : List OV) : R (OV × OV) := match os with
  | [a, b] => .ok (a, b)
  | _ => .stk
def forO {σ : Type} (ds : List PyData) (f : PyData → σ → O σ) (s : σ) : O σ := match ds with
  | [] => .next s
  | d :: ds => (f d s).bind fun s' => forO ds f s'
section
variable {μ : List SO} {σ τ : Type} {p p1 p2 p3 pc : Pat} {i j n k : Nat} {o x x0 : OV} {f fk : Rho → Re} {fl : Rho → ReL} {tc : Rho → ReB} {fi : Rho → ReI} {q qk : R OV} {ql : R (List OV)} {qb : R Bool} {qi : R (List PyData)} {g1 g2 body : Rho → Out} {h : OV → Rho → Option Rho} {st : σ → Pat} {fs : List Nat} {T : String} {g : OV → List OV → Option (OV × OV)}
theorem js_nil {s : σ} (l : Ple p (st s)) : jS μ sNil p (.next s) st := fun ρ m => ⟨ρ, rfl, l.mt m⟩
theorem js_seq {q1 : O τ} {st1 : τ → Pat} {kk : τ → O σ} (h1 : jS μ g1 p q1 st1) (h2 : ∀ s, jS μ g2 (st1 s) (kk s) st) : jS μ (sCons g1 g2) p (q1.bind kk) st := fun ρ m => by
  have a := h1 ρ m
  cases q1 with
  | stk => trivial
  | exc e => obtain ⟨ρ', a, zs⟩ := a; exact ⟨ρ', by unfold sCons; rw [a], zs⟩
  | ret o => obtain ⟨ρ', a, zs⟩ := a; exact ⟨ρ', by unfold sCons; rw [a], zs⟩
  | next s =>
    obtain ⟨ρ1, a, m1⟩ := a
    have b := h2 s ρ1 m1
    simp only [O.bind]
    unfold sCons
    rw [a]
    exact b
theorem js_ofE {st : OV → Pat} {gg : Rho → Out} (h : jE μ f p q p1) (hg : ∀ ρ, gg ρ = bindS (f ρ) fun o ρ1 => .next (ρ1.set i (some o))) : jS μ gg p (O.of q) (fun o => p1.set i (.ex o)) := fun ρ m => by
  have a := h ρ m
  rw [hg]
  cases q with
  | stk => trivial
  | exc e => obtain ⟨ρ', a, zs⟩ := a; exact ⟨ρ', by rw [a]; rfl, zs⟩
  | ok o => obtain ⟨ρ', a, m1⟩ := a; exact ⟨ρ'.set i (some o), by rw [a]; rfl, m1.set i rfl⟩
theorem js_set (h : jE μ f p q p1) : jS μ (sSet i f) p (O.of q) (fun o => p1.set i (.ex o)) := js_ofE (st := fun _ => p) h fun _ => rfl
theorem js_retc (h : jE μ f p q p1) : jS μ (sCons (sRet f) g2) p (O.bind (O.of q) fun o => .ret o) st := fun ρ m => by
  have a := h ρ m
  unfold sCons sRet
  cases q with
  | stk => trivial
  | exc e => obtain ⟨ρ', a, zs⟩ := a; exact ⟨ρ', by rw [a]; rfl, zs⟩
  | ok o => obtain ⟨ρ', a, m1⟩ := a; exact ⟨ρ', by rw [a]; rfl, m1.2⟩
theorem js_if {q1 q2 : O σ} (hc : jB μ tc p qb p1) (h1 : jS μ g1 p1 q1 st) (h2 : jS μ g2 p1 q2 st) : jS μ (sIf tc g1 g2) p (O.bind (O.of qb) fun b => if b = true then q1 else q2) st := fun ρ m => by
  have a := hc ρ m
  unfold sIf
  cases qb with
  | stk => trivial
  | exc e => obtain ⟨ρ', a, zs⟩ := a; exact ⟨ρ', by rw [a]; rfl, zs⟩
  | ok b =>
    obtain ⟨ρ1, a, m1⟩ := a
    rw [a]
    cases b with
    | true => exact h1 ρ1 m1
    | false => exact h2 ρ1 m1
theorem js_asg {qt : OV → R τ} {pt : OV → τ → Pat} {pt' : τ → Pat} (hf : jE μ f p q p1) (ht : ∀ o, jT μ h o p1 (qt o) pt') : jS μ (sAsg h f) p (O.of (q.bind qt)) pt' := fun ρ m => by
  have a := hf ρ m
  unfold sAsg
  cases q with
  | stk => trivial
  | exc e => obtain ⟨ρ', a, zs⟩ := a; exact ⟨ρ', by rw [a]; rfl, zs⟩
  | ok o =>
    obtain ⟨ρ1, a, m1⟩ := a
    have b := ht o ρ1 m1
    rw [a]
    simp only [R.bind, bindS]
    generalize qt o = z at b
    cases z with
    | stk => trivial
    | exc e => exact b.elim
    | ok t => obtain ⟨ρ2, b, m2⟩ := b; exact ⟨ρ2, by rw [b]; rfl, m2⟩
end
section
variable {μ : List SO} {σ τ : Type} {p p1 p2 p3 pc : Pat} {i j n k : Nat} {o x x0 x1 : OV} {f fk : Rho → Re} {fl : Rho → ReL} {tc : Rho → ReB} {fi : Rho → ReI} {q qk : R OV} {ql : R (List OV)} {qb : R Bool} {qi : R (List PyData)} {g1 g2 body : Rho → Out} {h : OV → Rho → Option Rho} {st : σ → Pat} {fs : List Nat} {T : String} {g : OV → List OV → Option (OV × OV)}
theorem forO_mt {fb : PyData → σ → O σ} (hb : ∀ d s, ∀ ρ, Mt μ (st s) ρ → match fb d s with
      | .next s' => ∃ ρ1 ρ2, h (.sh d) ρ = some ρ1 ∧ body ρ1 = .next ρ2 ∧ Mt μ (st s') (fgt fs ρ2)
      | .ret o => ∃ ρ1 ρ2, h (.sh d) ρ = some ρ1 ∧ body ρ1 = .ret o ρ2 ∧ ρ2.st = μ
      | .exc e => ∃ ρ1 ρ2, h (.sh d) ρ = some ρ1 ∧ body ρ1 = .exc e ρ2 ∧ ρ2.st = μ
      | .stk => True) : ∀ (ds : List PyData) (s : σ) (ρ : Rho), Mt μ (st s) ρ → match forO ds fb s with
      | .next s' => ∃ ρ', forL fs h body ds ρ = .next ρ' ∧ Mt μ (st s') ρ'
      | .ret o => ∃ ρ', forL fs h body ds ρ = .ret o ρ' ∧ ρ'.st = μ
      | .exc e => ∃ ρ', forL fs h body ds ρ = .exc e ρ' ∧ ρ'.st = μ
      | .stk => True
  | [], s, ρ, m => ⟨ρ, rfl, m⟩
  | d :: ds, s, ρ, m => by
    have h1 := hb d s ρ m
    unfold forO forL
    generalize fb d s = z at h1
    cases z with
    | stk => trivial
    | exc e => obtain ⟨ρ1, ρ2, a, b, zs⟩ := h1; exact ⟨ρ2, by simp only [a, b], zs⟩
    | ret e => obtain ⟨ρ1, ρ2, a, b, zs⟩ := h1; exact ⟨ρ2, by simp only [a, b], zs⟩
    | next s' =>
      obtain ⟨ρ1, ρ2, a, b, m2⟩ := h1
      simp only [a, b, O.bind]
      exact forO_mt hb ds s' _ m2
theorem js_for {qt : PyData → σ → R τ} {pt : PyData → σ → τ → Pat} {qb : PyData → σ → τ → O σ} {s0 : σ} (hi : jI μ fi p qi p1) (l : Ple (noP fs p1) (st s0)) (ht : ∀ d s, jT μ h (.sh d) (st s) (qt d s) (pt d s)) (hb : ∀ d s t, jS μ body (pt d s t) (qb d s t) st) (hf : ∀ s, noP fs (st s) = st s) :
    jS μ (sFor fs fi h body) p (O.bind (O.of qi) fun ds => forO ds (fun d s => O.bind (O.of (qt d s)) fun t => qb d s t) s0) st := fun ρ m => by
  have a := hi ρ m
  unfold sFor
  cases qi with
  | stk => trivial
  | exc e => obtain ⟨ρ', a, zs⟩ := a; exact ⟨ρ', by rw [a], zs⟩
  | ok ds =>
    obtain ⟨ρ1, a, m1⟩ := a
    rw [a]
    refine forO_mt (fun d s ρ m => ?_) ds s0 _ (l.mt (fgt_mt fs m1))
    have b := ht d s ρ m
    generalize qt d s = z at b
    cases z with
    | stk => trivial
    | exc e => exact b.elim
    | ok t =>
      obtain ⟨ρ1, b, m1⟩ := b
      have c := hb d s t ρ1 m1
      simp only [O.of, O.bind]
      generalize qb d s t = z at c
      cases z with
      | stk => trivial
      | exc e => obtain ⟨ρ2, c, zs⟩ := c; exact ⟨ρ1, ρ2, b, c, zs⟩
      | ret e => obtain ⟨ρ2, c, zs⟩ := c; exact ⟨ρ1, ρ2, b, c, zs⟩
      | next s' =>
        obtain ⟨ρ2, c, m2⟩ := c
        refine ⟨ρ1, ρ2, b, c, ?_⟩
        rw [← hf s']
        exact fgt_mt fs m2
theorem js_forN {qb : PyData → σ → O σ} {s0 : σ} (hi : jI μ fi p qi p1) (l : Ple (noP fs p1) (st s0)) (hb : ∀ d s, jS μ body ((st s).set i (.ex (.sh d))) (qb d s) st) (hf : ∀ s, noP fs (st s) = st s) :
    jS μ (sFor fs fi (hName i) body) p (O.bind (O.of qi) fun ds => forO ds (fun d s => qb d s) s0) st :=
  js_for (qt := fun _ _ => .ok ()) (qb := fun d s _ => qb d s) (pt := fun d s _ => (st s).set i (.ex (.sh d))) hi l (fun d s => jt_name) (fun d s _ => hb d s) hf
theorem js_mut (h0 : p[i]? = some (.ex x0)) (hl : jL μ fl p ql p1) (h1 : p1[i]? = some (.ex x)) : jS μ (sExpr (eMut i T g fl)) p (O.of ((ownR T x0).bind fun _ => ql.bind fun os => (mutR g x os).bind fun r => .ok r.1)) (fun x' => p1.set i (.ex x')) := fun ρ m => by
  obtain ⟨y, a0, rfl⟩ := m.at h0
  unfold ownR sExpr eMut
  rw [a0]
  by_cases c : ownT x0 = T
  · simp only [if_pos c, R.bind]
    have a := hl ρ m
    cases ql with
    | stk => trivial
    | exc e => obtain ⟨ρ', a, zs⟩ := a; exact ⟨ρ', by rw [a]; rfl, zs⟩
    | ok os =>
      obtain ⟨ρ1, a, m1⟩ := a
      obtain ⟨y, a1, rfl⟩ := m1.at h1
      simp only [a, bindL]
      unfold mutR ofM
      rw [a1]
      cases e : g x os with
      | none => trivial
      | some r => exact ⟨ρ1.set i (some r.1), by simp only [e]; rfl, m1.set i rfl⟩
  · simp only [if_neg c, R.bind, O.of]
theorem js_setIx {s : Ps} {d0 : PyData} (hf : jE μ f p q p1) (h1 : p1[i]? = some s) (hs : s.dat = some d0) (hk : jE μ fk p1 qk p2) (h2 : p2[i]? = some (.ex x)) : jS μ (sSetIx i f fk) p (O.of (q.bind fun o => qk.bind fun k => setR x k o)) (fun x' => p2.set i (.ex x')) := fun ρ m => by
  have a := hf ρ m
  unfold sSetIx
  cases q with
  | stk => trivial
  | exc e => obtain ⟨ρ', a, zs⟩ := a; exact ⟨ρ', by rw [a]; rfl, zs⟩
  | ok o =>
    obtain ⟨ρ1, a, m1⟩ := a
    obtain ⟨y, a1, b1⟩ := m1.at h1
    obtain ⟨y', rfl, _⟩ := Ps.dat_ok hs b1
    simp only [a, bindS, R.bind, a1, if_true]
    have b := hk ρ1 m1
    cases qk with
    | stk => trivial
    | exc e => obtain ⟨ρ', b, zs⟩ := b; exact ⟨ρ', by rw [b], zs⟩
    | ok kk =>
      obtain ⟨ρ2, b, m2⟩ := b
      obtain ⟨y, a2, rfl⟩ := m2.at h2
      simp only [b, R.bind]
      unfold setR ofSt
      rw [a2]
      cases e : setO x (fz kk) o with
      | none => trivial
      | some c => exact ⟨ρ2.set i (some c), by simp only [e], m2.set i rfl⟩
theorem js_par (hl : jL μ fl p ql p1) : jS μ (sPar i j fl) p (O.of (ql.bind par2R)) (fun r => (p1.set i (.ex r.1)).set j (.ex r.2)) := fun ρ m => by
  have a := hl ρ m
  unfold sPar
  cases ql with
  | stk => trivial
  | exc e => obtain ⟨ρ', a, zs⟩ := a; exact ⟨ρ', by rw [a], zs⟩
  | ok os =>
    obtain ⟨ρ1, a, m1⟩ := a
    rw [a]
    match os with
    | [] => trivial
    | [_] => trivial
    | _ :: _ :: _ :: _ => trivial
    | [u, v] => exact ⟨_, rfl, (m1.set i (s := .ex u) (x := some u) rfl).set j (s := .ex v) (x := some v) rfl⟩
theorem js_mutS {s : Ps} {d0 : PyData} (h0 : p[i]? = some s) (hs : s.dat = some d0) (hk : jE μ fk p qk p1) (h1 : p1[i]? = some (.ex x)) (hl : jL μ fl (p1.set i .un) ql p2) (h2 : p2[i]? = some .un) :
    jS μ (sExpr (eMutS i T g fk fl)) p (O.of (qk.bind fun k => (subR x k).bind fun o => (ownR T o).bind fun _ => (noX ql).bind fun os => (mutR g o os).bind fun r => .ok (putO x (fz k) r.1))) (fun x' => p2.set i (.ex x')) := fun ρ m => by
  obtain ⟨y, a0, b0⟩ := m.at h0
  obtain ⟨y', rfl, _⟩ := Ps.dat_ok hs b0
  unfold sExpr eMutS
  rw [if_pos (by unfold isOv; rw [a0])]
  have a := hk ρ m
  cases qk with
  | stk => trivial
  | exc e => obtain ⟨ρ', a, zs⟩ := a; exact ⟨ρ', by rw [a]; rfl, zs⟩
  | ok kk =>
    obtain ⟨ρ1, a, m1⟩ := a
    obtain ⟨y, a1, rfl⟩ := m1.at h1
    simp only [a, bindE, R.bind]
    rw [a1]
    unfold subR
    cases e : subO x (fz kk) with
    | none => trivial
    | some o =>
      simp only
      unfold ownR
      by_cases c : ownT o = T
      · simp only [if_pos c]
        have b := hl _ (m1.set i (s := .un) (x := none) rfl)
        cases ql with
        | stk => trivial
        | exc e => trivial
        | ok os =>
          obtain ⟨ρ2, b, m2⟩ := b
          obtain ⟨y, a2, rfl⟩ := m2.at h2
          simp only [noX]
          unfold mutR
          cases e2 : g o os with
          | none => trivial
          | some r =>
            refine ⟨ρ2.set i (some (putO x (fz kk) r.1)), ?_, m2.set i rfl⟩
            simp only [e, if_pos c, b, ofN, e2]
            rw [if_pos (by unfold isNo; rw [a2])]
            rfl
      · simp only [if_neg c, O.of]
theorem start_mt (k : Nat) : ∀ ds : List PyData, MtL (ds.map (fun d => Ps.ex (.sh d)) ++ List.replicate k .un) (ds.map (fun d => some (OV.sh d)) ++ List.replicate k none)
  | [] => by
    induction k with
    | zero => trivial
    | succ k ih => exact ⟨rfl, ih⟩
  | d :: ds => ⟨rfl, start_mt k ds⟩
theorem j_def {qq : O σ} {ds : List PyData} {m : Nat} (hb : jS μ body (ds.map (fun d => Ps.ex (.sh d)) ++ List.replicate (m - ds.length) .un) qq st) : match qq.fin with
    | .ok o => runP m body ds μ = .ok o μ
    | .exc e => runP m body ds μ = .exc e μ
    | .stk => True := by
  have a := hb ⟨_, μ⟩ ⟨start_mt _ ds, rfl⟩
  unfold runP
  cases qq with
  | stk => trivial
  | exc e => obtain ⟨ρ', a, zs⟩ := a; simp only [a, O.fin, outRv, zs]
  | ret o => obtain ⟨ρ', a, zs⟩ := a; simp only [a, O.fin, outRv, zs]
  | next s => obtain ⟨ρ', a, zs⟩ := a; simp only [a, O.fin, outRv, zs.2]
end
abbrev gSubI := gII (fun _ _ => true) fun i j => .int (i - j)
abbrev gMulI := gII mulOk fun i j => .int (i * j)
abbrev gModI := gII (fun _ j => decide (0 < j)) fun i j => .int (i % j)
abbrev gDivI := gII divOk fun i j => .int (i / j)
abbrev gPowI := gII powOk fun i j => .int (i ^ j.toNat)
abbrev gShlI := gII shlOk fun i j => .int (i * 2 ^ j.toNat)
abbrev gAndI := gII (fun _ _ => true) fun i j => .int (Builtin.bitAnd i j)
abbrev gOrI := gII (fun _ _ => true) fun i j => .int (Builtin.bitOr i j)
section
variable {μ : List SO} {σ : Type} {ds : List PyData}
theorem forO_nil {f : PyData → σ → O σ} {s : σ} : forO [] f s = .next s := nrfl rfl
theorem forO_cons {f : PyData → σ → O σ} {s : σ} {d : PyData} : forO (d :: ds) f s = (f d s).bind fun s' => forO ds f s' := nrfl rfl
theorem forO_inv {f : PyData → σ → O σ} (I : Nat → σ → Prop) : ∀ (ds : List PyData) (k : Nat) (s : σ), I k s → (∀ j d s, ds[j]? = some d → I (k + j) s → ∃ s', f d s = .next s' ∧ I (k + j + 1) s') → ∃ s', forO ds f s = .next s' ∧ I (k + ds.length) s'
  | [], k, s, h, _ => ⟨s, rfl, h⟩
  | d :: ds, k, s, h, hs => by
    obtain ⟨s1, e1, h1⟩ := hs 0 d s rfl h
    obtain ⟨s2, e2, h2⟩ := forO_inv I ds (k + 1) s1 h1 fun j d' s hj hi => by
      have := hs (j + 1) d' s (by simpa using hj) (by rw [show k + (j + 1) = k + 1 + j by omega]; exact hi)
      rw [show k + (j + 1) + 1 = k + 1 + j + 1 by omega] at this
      exact this
    refine ⟨s2, ?_, by rw [List.length_cons, show k + (ds.length + 1) = k + 1 + ds.length by omega]; exact h2⟩
    rw [forO_cons, e1]
    exact e2
theorem forO_same {f : PyData → σ → O σ} {s : σ} (h : ∀ d ∈ ds, f d s = .next s) : forO ds f s = .next s := by
  induction ds with
  | nil => rfl
  | cons d ds ih => rw [forO_cons, h d List.mem_cons_self]; exact ih fun d' hd => h d' (List.mem_cons_of_mem _ hd)
theorem forO_search {β : Type} {f : PyData → σ → O σ} {s : σ} (e : β → PyData) (p : β → Bool) (o : β → OV) : ∀ (xs : List β), (∀ x ∈ xs, f (e x) s = if p x = true then .ret (o x) else .next s) → forO (xs.map e) f s = match xs.find? p with
    | some x => .ret (o x)
    | none => .next s
  | [], _ => rfl
  | x :: xs, h => by
    rw [List.map_cons, forO_cons, h x List.mem_cons_self, List.find?_cons]
    cases q : p x with
    | true => rfl
    | false => exact forO_search e p o xs fun x' hx => h x' (List.mem_cons_of_mem _ hx)
theorem lcR_map {β : Type} {f : PyData → R (Option OV)} (e : β → PyData) (g : β → OV) : ∀ (xs : List β), (∀ x ∈ xs, f (e x) = .ok (some (g x))) → lcR f (xs.map e) = .ok (xs.map g)
  | [], _ => rfl
  | x :: xs, h => by
    have := lcR_map e g xs fun x' hx => h x' (List.mem_cons_of_mem _ hx)
    rw [List.map_cons, lcR, h x List.mem_cons_self]
    simp only [this, List.map_cons]
theorem lcR_filter {β : Type} {f : PyData → R (Option OV)} (e : β → PyData) (p : β → Bool) (g : β → OV) : ∀ (xs : List β), (∀ x ∈ xs, f (e x) = if p x = true then .ok (some (g x)) else .ok none) → lcR f (xs.map e) = .ok ((xs.filter p).map g)
  | [], _ => rfl
  | x :: xs, h => by
    have := lcR_filter e p g xs fun x' hx => h x' (List.mem_cons_of_mem _ hx)
    rw [List.map_cons, lcR, h x List.mem_cons_self]
    cases q : p x with
    | true => simp only [if_true, this]; rw [List.filter_cons_of_pos q, List.map_cons]
    | false => simp only [Bool.false_eq_true, if_false, this]; rw [List.filter_cons_of_neg (by simp [q])]
theorem szR_ok {α : Type} {n : Nat} {x : α} (h : n ≤ sizeLine) : szR n x = .ok x := if_pos h
theorem upto_eq (n : Nat) : upto 0 n = (List.range n).map fun k => PyData.int ((k : Nat) : Int) := by
  unfold upto
  refine List.map_congr_left fun k _ => ?_
  rw [Int.zero_add]
end
section
variable {μ : List SO} {α : Type} {x : α} {n : Nat} {a b c d e f g : PyData} {os : List OV} {ds : List PyData} {o o' : OV} {i j : Int}
theorem szR_lit (h : n ≤ 63) : szR n x = .ok x := szR_ok (Nat.le_trans h (by decide))
theorem szR_le (h : n ≤ sizeLine) : szR n x = .ok x := szR_ok h
theorem mutR_some {g : OV → List OV → Option (OV × OV)} {r : OV × OV} (h : g o os = some r) : mutR g o os = .ok r := by unfold mutR; rw [h]
theorem mutR_app (h : os.length < sizeLine) : mutR mApp (.lst os) [o] = .ok (.lst (os ++ [o]), .sh .none) := mutR_some (mApp_ok h)
theorem ownR_lst : ownR "list" (.lst os) = .ok () := if_pos rfl
theorem ownR_dk {kvs : List (Key × OV)} : ownR "dict" (.dk kvs) = .ok () := if_pos rfl
theorem ownR_dt {kvs : List (List Key × OV)} : ownR "dict" (.dt kvs) = .ok () := if_pos rfl
theorem itR_tup : itR (.sh (.tuple ds)) = .ok ds := by unfold itR; rw [fz_sh]; rfl
theorem itR_list : itR (.sh (.list ds)) = .ok ds := by unfold itR; rw [fz_sh]; rfl
theorem itR_lst : itR (.lst os) = .ok (os.map fz) := by unfold itR; rw [fz_lst]; rfl
theorem unT_l2 : unT 2 (.tuple [a, b]) = .ok [a, b] := nrfl rfl
theorem unT_l3 : unT 3 (.tuple [a, b, c]) = .ok [a, b, c] := nrfl rfl
theorem unT_l4 : unT 4 (.tuple [a, b, c, d]) = .ok [a, b, c, d] := nrfl rfl
theorem unT_l5 : unT 5 (.tuple [a, b, c, d, e]) = .ok [a, b, c, d, e] := nrfl rfl
theorem unT_l6 : unT 6 (.tuple [a, b, c, d, e, f]) = .ok [a, b, c, d, e, f] := nrfl rfl
theorem unT_l7 : unT 7 (.tuple [a, b, c, d, e, f, g]) = .ok [a, b, c, d, e, f, g] := nrfl rfl
theorem unL_l2 : unT 2 (.list [a, b]) = .ok [a, b] := nrfl rfl
theorem unL_l3 : unT 3 (.list [a, b, c]) = .ok [a, b, c] := nrfl rfl
theorem unL_l4 : unT 4 (.list [a, b, c, d]) = .ok [a, b, c, d] := nrfl rfl
theorem unL_l5 : unT 5 (.list [a, b, c, d, e]) = .ok [a, b, c, d, e] := nrfl rfl
theorem unL_l6 : unT 6 (.list [a, b, c, d, e, f]) = .ok [a, b, c, d, e, f] := nrfl rfl
theorem unL_l7 : unT 7 (.list [a, b, c, d, e, f, g]) = .ok [a, b, c, d, e, f, g] := nrfl rfl
theorem par2R_ok : par2R [o, o'] = .ok (o, o') := nrfl rfl
theorem g1_one {h : PyData → Option OV} : g1 h [o] = h (fz o) := nrfl rfl
theorem dInt_b {z : Bool} : dInt (.bool z) = some (.sh (.int (if z = true then 1 else 0))) := nrfl rfl
theorem dInt_i : dInt (.int i) = some (.sh (.int i)) := nrfl rfl
theorem dAbs_i : dAbs (.int i) = some (.sh (.int (if i < 0 then -i else i))) := nrfl rfl
theorem lcR_nil {q : PyData → R (Option OV)} : lcR q [] = .ok [] := nrfl rfl
theorem rng1R_ok (h : rngOk i = true) : rng1R (.sh (.int i)) = .ok (upto 0 i.toNat) := by unfold rng1R; simp only [h, if_true]
theorem rng2R_ok (h : rngOk i = true) (h2 : rngOk j = true) : rng2R [.sh (.int i), .sh (.int j)] = .ok (upto i (j - i).toNat) := by unfold rng2R; simp only [h, h2, Bool.and_self, if_true]
theorem rng1R_n {k : Nat} (h : k ≤ 1000000000) : rng1R (.sh (.int (k : Nat))) = .ok ((List.range k).map fun z => .int ((z : Nat) : Int)) := by
  rw [rng1R_ok (rngOk_of (by omega) (by omega)), Int.toNat_natCast, upto_eq]
end
theorem gAdd_LL {xs ys : List PyData} (h : xs.length + ys.length ≤ sizeLine) : gAdd (.sh (.list xs)) (.sh (.list ys)) = some (.lst ((xs ++ ys).map .sh)) := by
  unfold gAdd
  simp only [fz_sh, h, if_true]
theorem gAdd_Ll {xs : List PyData} {ys : List OV} (h : xs.length + ys.length ≤ sizeLine) : gAdd (.sh (.list xs)) (.lst ys) = some (.lst ((xs ++ ys.map fz).map .sh)) := by
  unfold gAdd
  simp only [fz_sh, fz_lst, List.length_map, h, if_true]
theorem gAdd_lL {xs : List OV} {ys : List PyData} (h : xs.length + ys.length ≤ sizeLine) : gAdd (.lst xs) (.sh (.list ys)) = some (.lst ((xs.map fz ++ ys).map .sh)) := by
  unfold gAdd
  simp only [fz_sh, fz_lst, List.length_map, h, if_true]
theorem gAdd_TT {xs ys : List PyData} (h : xs.length + ys.length ≤ sizeLine) : gAdd (.sh (.tuple xs)) (.sh (.tuple ys)) = some (.sh (.tuple (xs ++ ys))) := by
  unfold gAdd
  simp only [fz_sh, h, if_true]
theorem gEq_bool {neg a b : Bool} : gEq neg (.sh (.bool a)) (.sh (.bool b)) = some (.sh (.bool (neg ^^ decide (a = b)))) := by
  unfold gEq
  simp only [fz_sh, shaped_bool, and_self, if_true, PyData.eqv]
  cases a <;> cases b <;> rfl
theorem rite_and {p : Prop} [Decidable p] {b : Bool} : (if p then R.ok (OV.sh (.bool b)) else R.ok (OV.sh (.bool false))) = R.ok (.sh (.bool (decide p && b))) := by
  by_cases h : p <;> simp [h]
theorem rite_or {p : Prop} [Decidable p] {b : Bool} : (if p then R.ok (OV.sh (.bool true)) else R.ok (OV.sh (.bool b))) = R.ok (.sh (.bool (decide p || b))) := by
  by_cases h : p <;> simp [h]
theorem rb_and {p : Prop} [Decidable p] {b : Bool} : (if p then R.ok b else R.ok false) = R.ok (decide p && b) := by
  by_cases h : p <;> simp [h]
theorem rb_or {p : Prop} [Decidable p] {b : Bool} : (if p then R.ok true else R.ok b) = R.ok (decide p || b) := by
  by_cases h : p <;> simp [h]
abbrev shL {α : Type} (e : α → PyData) (xs : List α) : OV := .lst (xs.map fun x => .sh (e x))
theorem fz_shL {α : Type} {e : α → PyData} {xs : List α} : fz (shL e xs) = .list (xs.map e) := by
  rw [fz_lst, List.map_map]
  exact congrArg _ (List.map_congr_left fun x _ => fz_sh)
theorem map_fz_shL {α : Type} {e : α → PyData} {xs : List α} : (xs.map fun x => OV.sh (e x)).map fz = xs.map e := by
  rw [List.map_map]
  exact List.map_congr_left fun x _ => fz_sh
theorem forO_gather {σ β γ : Type} {f : PyData → σ → O σ} (e : β → PyData) (en : γ → PyData) (st : OV → σ) (g : β → List γ) (B : Nat) : ∀ (xs : List β) (acc : List γ),
    (∀ x ∈ xs, ∀ a : List γ, a.length + (g x).length ≤ B → f (e x) (st (shL en a)) = .next (st (shL en (a ++ g x)))) → acc.length + (xs.flatMap g).length ≤ B →
    forO (xs.map e) f (st (shL en acc)) = .next (st (shL en (acc ++ xs.flatMap g)))
  | [], acc, _, _ => by simp [forO_nil]
  | x :: xs, acc, h, hB => by
    rw [List.flatMap_cons, List.length_append] at hB
    rw [List.map_cons, forO_cons, h x List.mem_cons_self acc (by omega), O.bind_next]
    have := forO_gather e en st g B xs (acc ++ g x) (fun y hy => h y (List.mem_cons_of_mem _ hy)) (by rw [List.length_append]; omega)
    rw [this, List.flatMap_cons, List.append_assoc]
theorem forO_g0 {β γ : Type} {f : PyData → OV → O OV} (e : β → PyData) (en : γ → PyData) (g : β → List γ) (B : Nat) (xs : List β) (hB : (xs.flatMap g).length ≤ B)
    (h : ∀ x ∈ xs, ∀ a : List γ, a.length + (g x).length ≤ B → f (e x) (shL en a) = .next (shL en (a ++ g x))) : forO (xs.map e) f (.lst []) = .next (shL en (xs.flatMap g)) := by
  exact forO_gather (σ := OV) e en (fun o => o) g B xs [] h (by simpa using hB)
theorem forO_all {σ β : Type} {f : PyData → σ → O σ} {s : σ} {o : OV} (e : β → PyData) (p : β → Bool) : ∀ xs : List β, (∀ x ∈ xs, f (e x) s = if p x = true then .next s else .ret o) → forO (xs.map e) f s = if xs.all p = true then .next s else .ret o
  | [], _ => rfl
  | x :: xs, h => by
    rw [List.map_cons, forO_cons, h x List.mem_cons_self, List.all_cons]
    cases q : p x with
    | false => rfl
    | true =>
      rw [if_pos rfl, Bool.true_and, O.bind_next]
      exact forO_all e p xs fun y hy => h y (List.mem_cons_of_mem _ hy)
theorem lcR_some {f : PyData → R (Option OV)} (p : PyData → Bool) (g : PyData → OV) (xs : List PyData) (h : ∀ x ∈ xs, f x = if p x = true then .ok (some (g x)) else .ok none) : lcR f xs = .ok ((xs.filter p).map g) := by
  have := lcR_filter (f := f) (fun d => d) p g xs h
  rwa [List.map_id'] at this
theorem app_shL {γ : Type} {en : γ → PyData} {a : List γ} {c : γ} (h : a.length < sizeLine) : mApp (shL en a) [.sh (en c)] = some (shL en (a ++ [c]), .sh .none) := by
  rw [shL, mApp_ok (by rw [List.length_map]; exact h), shL, List.map_append]; rfl
theorem ext_shL {γ : Type} {en : γ → PyData} {a b : List γ} (h : a.length + b.length ≤ sizeLine) : mExt (shL en a) [shL en b] = some (shL en (a ++ b), .sh .none) := by
  unfold mExt
  simp only [List.length_map, h, if_true]
  rw [shL, List.map_append, List.map_map]
  have e : b.map ((fun y => OV.sh (fz y)) ∘ fun x => OV.sh (en x)) = b.map fun x => OV.sh (en x) := List.map_congr_left fun x _ => by simp only [Function.comp, fz_sh]
  rw [e]
section
variable {μ : List SO} {p p1 p2 p3 : Pat} {i : Nat} {x : OV} {f fk fl : Rho → Re} {q qk ql : R OV} {s : Ps} {d0 : PyData} {b : Int} {gg : Int → Int → Int}
end
end Ev
namespace Ev
end Ev
namespace Ev
open PySem PySem.Spec L2
open PyProof.Rows hiding St
section
variable {μ : List SO} {p p1 p2 : Pat} {fa : Rho → Re} {fl : Rho → ReL} {qa : R OV} {ql : R (List OV)}
end
section
variable {μ : List SO} {p p1 : Pat} {fb : Rho → Re} {qb : R OV} {i : Nat} {s0 : Ps} {d0 d : PyData} {o : OV}
end
def raiseO {σ : Type} (x : Str) (q : R OV) : O σ := match q with
  | .ok o => if isS o = true then .exc ⟨x, .none⟩ else .stk
  | .exc e => .exc e
  | .stk => .stk
theorem raiseO_s {σ : Type} {x z : Str} : raiseO x (.ok (.sh (.str z))) = (.exc ⟨x, .none⟩ : O σ) := nrfl rfl
def flagsO (x : Str) : OV := .lst ((flagsL x).map fun b => .sh (.bool b))
def tryO (q : O OV) : O OV := match q with
  | .exc e => if e.cls ∈ excNames then .next (flagsO e.cls) else .stk
  | q => q
theorem tryO_next {o : OV} : tryO (.next o) = .next o := nrfl rfl
theorem tryO_ret {o : OV} : tryO (.ret o) = .ret o := nrfl rfl
theorem tryO_stk : tryO .stk = .stk := nrfl rfl
section
variable {μ : List SO} {σ : Type} {f : Rho → Re} {g g1 : Rho → Out} {p p1 : Pat} {qa : R OV} {st : σ → Pat} {x : Str} {n i : Nat}
end
def raiseKO {σ : Type} (x : Str) (q qk : R OV) : O σ := match q with
  | .ok o => if isS o = true then (match qk with
    | .ok c => .exc ⟨x, fz c⟩
    | .exc e => .exc e
    | .stk => .stk) else .stk
  | .exc e => .exc e
  | .stk => .stk
theorem raiseKO_s {σ : Type} {x z : Str} {c : OV} : raiseKO x (.ok (.sh (.str z))) (.ok c) = (.exc ⟨x, fz c⟩ : O σ) := nrfl rfl
section
variable {μ : List SO} {σ : Type} {f fk : Rho → Re} {g g1 : Rho → Out} {p p1 p2 : Pat} {qa qk : R OV} {st : σ → Pat} {x : Str} {n i : Nat}
end
section
variable {μ : List SO} {fl : Rho → ReL} {p p1 : Pat} {ql : R (List OV)}
end
section
variable {μ : List SO} {α : Type} {e : α → PyData} {xs : List α} {ds : List PyData} {o : OV} {b : Bool}
theorem itR_shL : itR (shL e xs) = .ok (xs.map e) := by unfold itR; rw [fz_shL]; rfl
theorem ownR_shL : ownR "list" (shL e xs) = .ok () := nrfl rfl
theorem dLenP_l : dLenP (.list ds) = some (.int (ds.length : Nat)) := nrfl rfl
theorem dLenP_t : dLenP (.tuple ds) = some (.int (ds.length : Nat)) := nrfl rfl
theorem gIsiP_ll : gIsiP "list" (.list ds) = some (.bool true) := by rw [gIsiP]; simp [isDict, isiB]
theorem gIsiP_tt : gIsiP "tuple" (.tuple ds) = some (.bool true) := by rw [gIsiP]; simp [isDict, isiB]
theorem gIsiP_tl : gIsiP "tuple" (.list ds) = some (.bool false) := by rw [gIsiP]; simp [isDict, isiB]
theorem gIsiP_lt : gIsiP "list" (.tuple ds) = some (.bool false) := by rw [gIsiP]; simp [isDict, isiB]
end
section
variable {μ : List SO} {p p1 p2 : Pat} {fa : Rho → Re} {fl : Rho → ReL} {qa : R OV} {ql : R (List OV)}
end
section
variable {μ : List SO} {p p1 p2 : Pat} {fa : Rho → Re} {fl : Rho → ReL} {qa : R OV} {ql : R (List OV)} {g : Str → List PyData → Option OV}
end
section
variable {μ : List SO} {p p1 p2 p3 : Pat} {fd fk fv : Rho → Re} {qd qk qv : R OV}
end
section
variable {μ : List SO} {p p1 p2 : Pat} {i : Nat} {x x0 : OV} {fk : Rho → Re} {fl : Rho → ReL} {qk : R OV} {ql : R (List OV)} {T : String} {g : OV → List OV → Option (OV × OV)}
end
section
variable {μ : List SO} {p p1 : Pat} {fa : Rho → Re} {qa : R OV} {g : Str → List PyData → Option OV}
end
end Ev
namespace L2
open PySem PySem.Spec PyProof.Rows
section
variable {X : Cx} {CX : CXT} {k : Nat} {f C : Addr} {fd : FuncData} {ps : List Str} {sp : Sp} {dvs : List V} {ds : List Value} {E : St → XK} {x m : Str} {p pos apos : Pos} {e o : Expr} {es : List Expr} {ta : TE} {t : TA}
end
end L2
namespace Ev
open PySem PySem.Spec L2
open PyProof.Rows hiding St
section
variable {K : PySem.W.Frag} {G G' : Hg}
theorem StoL.get : ∀ {as : List Addr} {os : List SO} {bs : Bs} {n : Nat} {a : Addr} {o : SO}, StoL K G as os bs → as[n]? = some a → os[n]? = some o →
    ∃ b0 b1 b2, bs = b0 ++ b1 ++ b2 ∧ SOwn K G a o b1 ∧ ∀ G' o' b', Ext G G' → SOwn K G' a o' b' → StoL K G' as (os.set n o') (b0 ++ b' ++ b2)
  | _, _, _, _, _, _, .nil, h, _ => by simp at h
  | _, _, _, 0, _, _, .cons (b1 := b1) (b2 := b2) h r, e1, e2 => by
    simp at e1 e2; subst e1 e2
    exact ⟨[], b1, b2, by simp, h, fun G' o' b' ex q => by simpa using StoL.cons q (r.mono ex)⟩
  | _, _, _, n + 1, _, _, .cons (b1 := c1) (b2 := c2) h r, e1, e2 => by
    obtain ⟨b0, b1, b2, e, q, f⟩ := StoL.get (n := n) r (by simpa using e1) (by simpa using e2)
    refine ⟨c1 ++ b0, b1, b2, by rw [e]; simp, q, fun G' o' b' ex q' => ?_⟩
    have := StoL.cons (h.mono ex) (f G' o' b' ex q')
    simpa using this
theorem StoL.snoc : ∀ {as : List Addr} {os : List SO} {bs : Bs} {a : Addr} {o : SO} {b : Bs}, StoL K G as os bs → SOwn K G a o b → StoL K G (as ++ [a]) (os ++ [o]) (bs ++ b)
  | _, _, _, _, _, b, .nil, h => by simpa using StoL.cons h .nil
  | _, _, _, _, _, b, .cons h r, q => by
    have := StoL.cons h (r.snoc q)
    simpa using this
end
section
variable {K : PySem.W.Frag} {Hf : Hg} {H : Hp} {its T : Its} {F : Bs} {a : Addr} {u : HO} {m : List Addr} {v : V} {ρ : Rho} {σ : St}
theorem SX.frChg {l1 l2 : Bs} (nt : ∀ xs, u ≠ .tup xs) (s : SX K Hf its (fr (l1 ++ (a, u) :: l2) m) H) : H a = some u ∧ ∀ u', SX K Hf its (fr (l1 ++ (a, u') :: l2) m) (upd H a u') := by
  obtain ⟨⟨bs, h, n, al⟩, e, mm⟩ := s
  have al : ∀ p ∈ bs ++ (l1 ++ (a, u) :: l2), H p.1 = some p.2 ∧ Fre Hf p := al
  have n : ((bs ++ (l1 ++ (a, u) :: l2)).map (·.1)).Nodup := n
  have h0 := al (a, u) (by simp)
  refine ⟨h0.1, fun u' => ⟨⟨bs, h, ?_, fun p hp => ?_⟩, Ext.mkOn fun b x q => ?_, mm⟩⟩
  · show ((bs ++ (l1 ++ (a, u') :: l2)).map (·.1)).Nodup
    simpa using n
  · have hp : p ∈ bs ++ (l1 ++ (a, u') :: l2) := hp
    have P : (bs ++ (l1 ++ (a, u') :: l2)).Perm ((a, u') :: (bs ++ (l1 ++ l2))) := by
      rw [← List.append_assoc, ← List.append_assoc]
      exact List.perm_middle
    have P0 : (bs ++ (l1 ++ (a, u) :: l2)).Perm ((a, u) :: (bs ++ (l1 ++ l2))) := by
      rw [← List.append_assoc, ← List.append_assoc]
      exact List.perm_middle
    have n2 : (a :: ((bs ++ (l1 ++ l2)).map (·.1))).Nodup := nodup_perm P0 n
    rcases List.mem_cons.mp (P.mem_iff.mp hp) with rfl | hp
    · exact ⟨upd_same, .inl (h0.2.no nt)⟩
    · have ne : p.1 ≠ a := fun z => (List.nodup_cons.mp n2).1 (List.mem_map.mpr ⟨p, hp, z⟩)
      rw [upd_ne ne]
      exact al p (P0.mem_iff.mpr (List.mem_cons_of_mem _ hp))
  · have ne : b ≠ a := fun z => by rw [z, h0.2.no nt] at q; cases q
    rw [upd_ne ne]; exact e.1 b x q
theorem SI.obj {n : Nat} {o : SO} (s : SI K Hf T ρ F σ H) (h : ρ.st[n]? = some o) (r : Rp K Hf v (hdl n)) : ∃ a b1, v = .ref a ∧ SOwn K Hf a o b1 ∧ (∀ p ∈ b1, H p.1 = some p.2) ∧
    ∀ o' u u' rs, b1 = (a, u) :: rs → SOwn K Hf a o' ((a, u') :: rs) → SI K Hf T ⟨ρ.sl, ρ.st.set n o'⟩ F σ (upd H a u') := by
  obtain ⟨its, sb, hs, t, sx⟩ := s.ex
  obtain ⟨a, rfl, hm⟩ := r.hdl
  obtain ⟨b0, b1, b2, rfl, q, f⟩ := t.get hm h
  refine ⟨a, b1, rfl, q, fun p hp => ?_, fun o' u u' rs e q' => ?_⟩
  · obtain ⟨⟨bs, _, _, al⟩, _⟩ := sx
    exact (al p (List.mem_append_right _ (List.mem_append_left _ (List.mem_append_left _ (List.mem_append_right _ hp))))).1
  · subst e
    have e1 : ∀ w, (b0 ++ (a, w) :: rs ++ b2) ++ F = b0 ++ (a, w) :: (rs ++ b2 ++ F) := fun w => by simp
    rw [e1] at sx
    refine ⟨its, _, hs, f Hf o' ((a, u') :: rs) (Ext.refl _) q', ?_⟩
    rw [e1]
    exact (sx.frChg (by cases q <;> (intro _ z; cases z))).2 u'
end
def hdOf : PyData → Option Nat
  | .dict [(.none, .int i)] => if 0 ≤ i then some i.toNat else none
  | _ => none
theorem hdOf_hdl {n : Nat} : hdOf (hdl n) = some n := by
  unfold hdOf hdl
  simp
theorem hdOf_some {d : PyData} {n : Nat} (h : hdOf d = some n) : d = hdl n := by
  unfold hdOf at h
  split at h
  · split at h
    · rename_i i hi
      cases h
      unfold hdl
      have : Int.ofNat i.toNat = i := Int.toNat_of_nonneg hi
      rw [this]
    · cases h
  · cases h
def objOf (st : List SO) (d : PyData) : Option SO := match hdOf d with
  | some n => st[n]?
  | none => none
theorem objOf_some {st : List SO} {d : PyData} {o : SO} (h : objOf st d = some o) : ∃ n, d = hdl n ∧ st[n]? = some o := by
  unfold objOf at h
  split at h
  · rename_i n hn
    exact ⟨n, hdOf_some hn, h⟩
  · cases h
theorem objOf_hdl {st : List SO} {n : Nat} : objOf st (hdl n) = st[n]? := by unfold objOf; rw [hdOf_hdl]
def putS {α : Type} (f : Str) (v : α) : List (Str × α) → List (Str × α)
  | [] => [(f, v)]
  | (g, x) :: r => if g = f then (g, v) :: r else (g, x) :: putS f v r
section
variable {K : PySem.W.Frag} {G : Hg}
end
def fldOf (c x : Str) (st : List SO) (d : PyData) : Option PyData := match objOf st d with
  | some (.ins c' fs) => if c' = c then fs.lookup x else none
  | _ => none
def putFl (c x : Str) (st : List SO) (d y : PyData) : Option (List SO) := match hdOf d with
  | some n => match st[n]? with
    | some (.ins c' fs) => if c' = c ∧ fs.length < 1000 then some (st.set n (.ins c (putS x y fs))) else none
    | _ => none
  | none => none
section
variable {X : Cx} {W : WX} {e a b o : Expr} {es : List Expr} {f fa fb fo f0 : Rho → Re} {fl : Rho → ReL} {pos pos' apos p : Pos} {m k n : Nat} {c x mn : Str} {g : List PyData → List SO → Rv}
theorem SI.ins {K : PySem.W.Frag} {Hf : Hg} {T : Its} {ρ : Rho} {F : Bs} {σ : St} {H : Hp} {v : V} {o : OV} {c' : Str} {fs : List (Str × PyData)} (s : SI K Hf ((v, o) :: T) ρ F σ H) (h : objOf ρ.st (fz o) = some (.ins c' fs)) :
    ∃ (a : Addr) (n : Nat) (dx : Addr) (ns : List Str) (vs : List V) (ds : List PyData) (Hf' : Hg), v = .ref a ∧ fz o = hdl n ∧ ρ.st[n]? = some (.ins c' fs) ∧ H a = some (.ins (He.ga K c') dx (ns.zip vs)) ∧ ns.length = vs.length ∧ fs = ns.zip ds ∧ Same Hf Hf' ∧ SI K Hf' ((v, .sh (hdl n)) :: T) ρ F σ H ∧ RpAll K Hf' vs ds := by
  obtain ⟨n, e, hn⟩ := objOf_some h
  obtain ⟨Hf', sm, s2⟩ := s.freeze
  rw [e] at s2
  obtain ⟨a, b1, rfl, so, al, _⟩ := s2.obj hn s2.rp
  cases so with
  | @ins dx _ ns vs ds l r => exact ⟨a, n, dx, ns, vs, ds, Hf', rfl, e, hn, al (a, .ins (He.ga K c') dx (ns.zip vs)) List.mem_cons_self, l, rfl, sm, s2, r⟩
end
def derefO (st : List SO) (d : PyData) : Option PyData := match objOf st d with
  | some (.lst ds) => some (.list ds)
  | _ => none
section
variable {K : PySem.W.Frag} {Hf : Hg} {T : Its} {ρ : Rho} {F : Bs} {σ : St} {H : Hp} {v : V} {o : OV} {c : PyData}
end
def isLs (st : List SO) (d : PyData) : Bool := (derefO st d).isSome
def hApp (ds es : List PyData) : Option (List PyData × PyData) := match es with
  | [e] => if ds.length < sizeLine then some (ds ++ [e], .none) else none
  | _ => none
def hPop (ds es : List PyData) : Option (List PyData × PyData) := match es with
  | [] => match ds.getLast? with
    | some d => some (ds.dropLast, d)
    | none => none
  | _ => none
section
variable {K : PySem.W.Frag}
end
section
variable {X : Cx} {W : WX} {e a b o : Expr} {es : List Expr} {f fa fb fo f0 fk : Rho → Re} {fl : Rho → ReL} {pos pos' apos cpos p : Pos} {m k n i : Nat} {name : Str}
def eTupO (fl : Rho → ReL) (ρ : Rho) : Re := bindL (fl ρ) fun os ρ1 => if os.length ≤ sizeLine then .ok (.tup os) ρ1 else .stk
theorem ev_tupO {x1} {n0 : Nat} (h : EvL X W es fl) (hn : n0 ≠ 3) (hfl : ∀ ρ os ρ', fl ρ = .ok os ρ' → os.length = n0) : EvE X W (.Tuple es x1 pos) (eTupO fl) := pe_w (pe_tup h) fun σ H Q ⟨Hf, T, ρ, F, s, h⟩ => by
  unfold eTupO at h
  refine ⟨Hf, T, ρ, F, s, ?_⟩
  cases q : fl ρ with
  | exc e ρ1 => rw [q] at h; exact h
  | stk => rw [q] at h; exact h
  | ok os ρ1 =>
    rw [q] at h
    intro vs H1 Hf1 l sm s1
    have h1 := PostE.mono sm h
    simp only [bindL] at h1
    by_cases hz : os.length ≤ sizeLine
    · rw [if_pos hz] at h1
      refine ⟨by rw [l]; exact hz, fun p hp => ?_⟩
      obtain ⟨its, F2, s3, bk⟩ := s1.ex2
      rw [List.append_assoc] at s3
      have s4 := s3.newOwn (u := .tup vs) (o := .tup os) hp fun bs hb => .tup (by rw [hfl _ _ _ q]; exact hn) (OwnI.lst l hb)
      exact h1 _ _ _ (Same.refl _) (bk ((_, _) :: T) _ _ (Same.refl _) s4)
    · rw [if_neg hz] at h1; exact h1.elim
end
section
variable {P : Program} {w : World} {K : PySem.W.Frag} {mg : Str → Option Value} {base : Heap} {x qual c m : Str} {ag : Arguments} {bd : List Stmt} {sco : Scope} {f : Addr} {fd : FuncData} {dvs : List V} {kws : List (Str × V)}
end
inductive XR (α : Type) where
  | ok (a : α) (μ : List SO) | exc (e : Exn) (μ : List SO) | stk
def XR.bind {α β : Type} (q : XR α) (k : α → List SO → XR β) : XR β := match q with
  | .ok a μ => k a μ
  | .exc e μ => .exc e μ
  | .stk => .stk
def XR.of {α : Type} (μ : List SO) (q : R α) : XR α := match q with
  | .ok a => .ok a μ
  | .exc e => .exc e μ
  | .stk => .stk
inductive OX (σ : Type) where
  | next (s : σ) (μ : List SO) | ret (o : OV) (μ : List SO) | exc (e : Exn) (μ : List SO) | stk
def OX.bind {σ τ : Type} (q : OX σ) (k : σ → List SO → OX τ) : OX τ := match q with
  | .next s μ => k s μ
  | .ret o μ => .ret o μ
  | .exc e μ => .exc e μ
  | .stk => .stk
def OX.of {σ : Type} (q : XR σ) : OX σ := match q with
  | .ok s μ => .next s μ
  | .exc e μ => .exc e μ
  | .stk => .stk
def OX.lift {σ : Type} (μ : List SO) (q : O σ) : OX σ := match q with
  | .next s => .next s μ
  | .ret o => .ret o μ
  | .exc e => .exc e μ
  | .stk => .stk
def OX.fin {σ : Type} (q : OX σ) : XR OV := match q with
  | .next _ μ => .ok (.sh .none) μ
  | .ret o μ => .ok o μ
  | .exc e μ => .exc e μ
  | .stk => .stk
section
variable {α β σ τ : Type} {μ : List SO} {e : Exn} {f : α → List SO → XR β} {g : σ → List SO → OX τ} {a : α} {s : σ} {o : OV}
theorem XR.bind_ok : XR.bind (.ok a μ) f = f a μ := nrfl rfl
theorem XR.bind_exc : XR.bind (.exc e μ) f = .exc e μ := nrfl rfl
theorem XR.bind_stk : XR.bind .stk f = .stk := nrfl rfl
theorem XR.of_ok : XR.of μ (.ok a) = .ok a μ := nrfl rfl
theorem XR.of_exc : XR.of μ (.exc e : R α) = .exc e μ := nrfl rfl
theorem XR.of_stk : XR.of μ (.stk : R α) = .stk := nrfl rfl
theorem OX.bind_next : OX.bind (.next s μ) g = g s μ := nrfl rfl
theorem OX.bind_ret : OX.bind (.ret o μ) g = .ret o μ := nrfl rfl
theorem OX.bind_exc : OX.bind (.exc e μ) g = .exc e μ := nrfl rfl
theorem OX.bind_stk : OX.bind .stk g = .stk := nrfl rfl
theorem OX.of_ok : OX.of (.ok s μ) = .next s μ := nrfl rfl
theorem OX.of_exc : OX.of (.exc e μ : XR σ) = .exc e μ := nrfl rfl
theorem OX.of_stk : OX.of (.stk : XR σ) = .stk := nrfl rfl
theorem OX.lift_next : OX.lift μ (.next s) = .next s μ := nrfl rfl
theorem OX.lift_ret : OX.lift μ (.ret o : O σ) = .ret o μ := nrfl rfl
theorem OX.lift_exc : OX.lift μ (.exc e : O σ) = .exc e μ := nrfl rfl
theorem OX.fin_next : OX.fin (.next s μ) = .ok (.sh .none) μ := nrfl rfl
theorem OX.fin_ret : OX.fin (.ret o μ : OX σ) = .ok o μ := nrfl rfl
theorem OX.fin_exc : OX.fin (.exc e μ : OX σ) = .exc e μ := nrfl rfl
end
def jXE (μ : List SO) (f : Rho → Re) (p : Pat) (q : XR OV) (p' : Pat) : Prop := ∀ ρ, Mt μ p ρ → match q with
  | .ok o μ' => ∃ ρ', f ρ = .ok o ρ' ∧ Mt μ' p' ρ'
  | .exc e μ' => ∃ ρ', f ρ = .exc e ρ' ∧ ρ'.st = μ'
  | .stk => True
def jXL (μ : List SO) (f : Rho → ReL) (p : Pat) (q : XR (List OV)) (p' : Pat) : Prop := ∀ ρ, Mt μ p ρ → match q with
  | .ok o μ' => ∃ ρ', f ρ = .ok o ρ' ∧ Mt μ' p' ρ'
  | .exc e μ' => ∃ ρ', f ρ = .exc e ρ' ∧ ρ'.st = μ'
  | .stk => True
def jXB (μ : List SO) (f : Rho → ReB) (p : Pat) (q : XR Bool) (p' : Pat) : Prop := ∀ ρ, Mt μ p ρ → match q with
  | .ok o μ' => ∃ ρ', f ρ = .ok o ρ' ∧ Mt μ' p' ρ'
  | .exc e μ' => ∃ ρ', f ρ = .exc e ρ' ∧ ρ'.st = μ'
  | .stk => True
def jXS {σ : Type} (μ : List SO) (g : Rho → Out) (p : Pat) (q : OX σ) (st : σ → Pat) : Prop := ∀ ρ, Mt μ p ρ → match q with
  | .next s μ' => ∃ ρ', g ρ = .next ρ' ∧ Mt μ' (st s) ρ'
  | .ret o μ' => ∃ ρ', g ρ = .ret o ρ' ∧ ρ'.st = μ'
  | .exc e μ' => ∃ ρ', g ρ = .exc e ρ' ∧ ρ'.st = μ'
  | .stk => True
def jXP (m : List PyData → List SO → Rv) (q : List PyData → List SO → XR OV) : Prop := ∀ ds μ, match q ds μ with
  | .ok o μ' => m ds μ = .ok o μ'
  | .exc e μ' => m ds μ = .exc e μ'
  | .stk => True
def jRP (m : List PyData → List SO → Rv) (q : List PyData → List SO → R OV) : Prop := ∀ ds μ, match q ds μ with
  | .ok o => m ds μ = .ok o μ
  | .exc e => m ds μ = .exc e μ
  | .stk => True
section
variable {μ : List SO} {σ τ : Type} {f fa fb f0 : Rho → Re} {fl : Rho → ReL} {ta tb tc : Rho → ReB} {fi : Rho → ReI} {g1 g2 body : Rho → Out} {p p1 p2 p3 : Pat} {q q0 : R OV} {qL : R (List OV)} {qB : R Bool} {qi : R (List PyData)} {qa : XR OV} {ql : XR (List OV)} {qt : XR Bool} {qb : List SO → XR OV} {qs : O σ} {st : σ → Pat} {c xn mn : Str} {i n : Nat} {d : PyData} {h : OV → Rho → Option Rho} {fs : List Nat}
theorem jE.x (hh : jE μ f p q p1) : jXE μ f p (.of μ q) p1 := fun ρ m => by
  have := hh ρ m
  cases q <;> exact this
theorem jL.x (hh : jL μ fl p qL p1) : jXL μ fl p (.of μ qL) p1 := fun ρ m => by
  have := hh ρ m
  cases qL <;> exact this
theorem jB.x (hh : jB μ ta p qB p1) : jXB μ ta p (.of μ qB) p1 := fun ρ m => by
  have := hh ρ m
  cases qB <;> exact this
theorem jS.x (hh : jS μ g1 p qs st) : jXS μ g1 p (.lift μ qs) st := fun ρ m => by
  have := hh ρ m
  cases qs <;> exact this
theorem jXE.bind {k : OV → List SO → XR OV} {kk : OV → Rho → Re} (hh : jXE μ f p qa p1) (hk : ∀ o μ', jXE μ' (kk o) p1 (k o μ') p2) : jXE μ (fun ρ => bindE (f ρ) kk) p (qa.bind k) p2 := fun ρ m => by
  have h1 := hh ρ m
  cases qa with
  | stk => trivial
  | exc e μ' => obtain ⟨ρ', a, zs⟩ := h1; exact ⟨ρ', by simp only [a]; rfl, zs⟩
  | ok o μ' =>
    obtain ⟨ρ1, a1, m1⟩ := h1
    have := hk o μ' ρ1 m1
    simp only [a1, bindE, XR.bind]
    exact this
theorem jXL.bind {k : List OV → List SO → XR OV} {kk : List OV → Rho → Re} (hh : jXL μ fl p ql p1) (hk : ∀ o μ', jXE μ' (kk o) p1 (k o μ') p2) : jXE μ (fun ρ => bindL (fl ρ) kk) p (ql.bind k) p2 := fun ρ m => by
  have h1 := hh ρ m
  cases ql with
  | stk => trivial
  | exc e μ' => obtain ⟨ρ', a, zs⟩ := h1; exact ⟨ρ', by simp only [a]; rfl, zs⟩
  | ok o μ' =>
    obtain ⟨ρ1, a1, m1⟩ := h1
    have := hk o μ' ρ1 m1
    simp only [a1, bindL, XR.bind]
    exact this
theorem jP.x {mm : List PyData → List SO → Rv} {qq : List PyData → R OV} (hc : jP mm qq) : jXP mm (fun ds μ => .of μ (qq ds)) := fun ds μ => by
  have := hc ds μ
  show match XR.of μ (qq ds) with | .ok o μ' => _ | .exc e μ' => _ | .stk => True
  generalize qq ds = z at this
  cases z <;> exact this
theorem jRP.x {mm : List PyData → List SO → Rv} {qq : List PyData → List SO → R OV} (hc : jRP mm qq) : jXP mm (fun ds μ => .of μ (qq ds μ)) := fun ds μ => by
  have := hc ds μ
  show match XR.of μ (qq ds μ) with | .ok o μ' => _ | .exc e μ' => _ | .stk => True
  generalize qq ds μ = z at this
  cases z <;> exact this
def mkX (n : Nat) (q : XR OV) : XR OV := match q with
  | .ok (.sh .none) μ => .ok (.sh (hdl n)) μ
  | .exc e μ => .exc e μ
  | _ => .stk
theorem mkX_ok {n : Nat} : mkX n (.ok (.sh .none) μ) = .ok (.sh (hdl n)) μ := nrfl rfl
theorem mkX_exc {n : Nat} {e : Exn} : mkX n (.exc e μ) = .exc e μ := nrfl rfl
def derR (μ : List SO) (o : OV) : R PyData := match derefO μ (fz o) with
  | some d => .ok d
  | none => .stk
def hmX (g : List PyData → List PyData → Option (List PyData × PyData)) (d : PyData) (os : List OV) (μ : List SO) : XR OV := match hdOf d with
  | some n => match μ[n]? with
    | some (.lst ds) => match g ds (os.map fz) with
      | some (ds', c) => .ok (.sh c) (μ.set n (.lst ds'))
      | none => .stk
    | _ => .stk
  | none => .stk
theorem j_tupO (hh : jL μ fl p qL p1) : jE μ (eTupO fl) p (qL.bind fun os => szR os.length (.tup os)) p1 := jL.bind hh fun os ρ m => by
  unfold szR
  by_cases q : os.length ≤ sizeLine
  · simp only [if_pos q]; exact ⟨ρ, rfl, m⟩
  · simp only [if_neg q]
theorem jXB.bind {k : Bool → List SO → XR Bool} {kk : Bool → Rho → ReB} (hh : jXB μ ta p qt p1) (hk : ∀ b μ', jXB μ' (kk b) p1 (k b μ') p2) : jXB μ (fun ρ => bindBB (ta ρ) kk) p (qt.bind k) p2 := fun ρ m => by
  have h1 := hh ρ m
  cases qt with
  | stk => trivial
  | exc e μ' => obtain ⟨ρ', a, zs⟩ := h1; exact ⟨ρ', by simp only [a]; rfl, zs⟩
  | ok b μ' =>
    obtain ⟨ρ1, a1, m1⟩ := h1
    have := hk b μ' ρ1 m1
    simp only [a1, bindBB, XR.bind]
    exact this
def andX (o : OV) (μ : List SO) (q : XR OV) : XR OV := match o with
  | .sh (.bool true) => q
  | .sh (.bool false) => .ok (.sh (.bool false)) μ
  | _ => .stk
def orX (o : OV) (μ : List SO) (q : XR OV) : XR OV := match o with
  | .sh (.bool true) => .ok (.sh (.bool true)) μ
  | .sh (.bool false) => q
  | _ => .stk
theorem andX_b {b : Bool} {q : XR OV} : andX (.sh (.bool b)) μ q = if b = true then q else .ok (.sh (.bool false)) μ := by cases b <;> rfl
theorem orX_b {b : Bool} {q : XR OV} : orX (.sh (.bool b)) μ q = if b = true then .ok (.sh (.bool true)) μ else q := by cases b <;> rfl
def fldX (c x : Str) (o y : PyData) (μ : List SO) : XR Unit := match putFl c x μ o y with
  | some st' => .ok () st'
  | none => .stk
def forX (ds : List PyData) (f : PyData → σ → List SO → OX σ) (s : σ) (μ : List SO) : OX σ := match ds with
  | [] => .next s μ
  | d :: ds => (f d s μ).bind fun s' μ' => forX ds f s' μ'
theorem forX_nil {f : PyData → σ → List SO → OX σ} {s : σ} : forX [] f s μ = .next s μ := nrfl rfl
theorem forX_cons {f : PyData → σ → List SO → OX σ} {s : σ} {d : PyData} {ds : List PyData} : forX (d :: ds) f s μ = (f d s μ).bind fun s' μ' => forX ds f s' μ' := nrfl rfl
def tryX (q : OX OV) : OX OV := match q with
  | .exc e μ => if e.cls ∈ excNames then .next (flagsO e.cls) μ else .stk
  | q => q
theorem tryX_next {o : OV} : tryX (.next o μ) = .next o μ := nrfl rfl
theorem tryX_ret {o : OV} : tryX (.ret o μ) = .ret o μ := nrfl rfl
end
section
variable {μ : List SO} {p p1 pc : Pat} {i : Nat} {vs : List Nat} {h : OV → Rho → Option Rho} {te : Rho → Re} {d : PyData} {fi : Rho → ReI} {qi : R (List PyData)}
end
section
variable {X : Cx}
end
section
variable {X : Cx} {W : WX} {a b : Expr} {fa fb : Rho → Re} {pos : Pos}
end
section
variable {prog : Program} {w : World} {A : Around} {E : Value → Shared → Prop} {s : Shared}
end
section
variable {X : Cx} {W : WX}
end
section
variable {X : Cx}
end
def tup3 (o : PyData) : Option OV := match o with
  | .list ds => if ds.length = 3 then some (.tup (ds.map .sh)) else none
  | _ => none
section
variable {X : Cx} {W : WX} {a b e o : Expr} {f fb : Rho → Re} {pos apos cpos p : Pos} {n i : Nat}
theorem SI.tup3 {K : PySem.W.Frag} {Hf : Hg} {T : Its} {ρ : Rho} {F : Bs} {σ : St} {H : Hp} {v : V} {os : List OV} (s : SI K Hf ((v, .tup os) :: T) ρ F σ H) (h : os.length = 3) : ∃ a its vs, v = .ref a ∧ H a = some (.frz (tupObj its) (.tup vs)) := by
  obtain ⟨its, sb, h1, hs, s⟩ := s.ex
  obtain ⟨⟨bs, hI, n, al⟩, e, mm⟩ := s
  cases hI with
  | cons hI _ =>
    cases hI with
    | tup hn _ => exact absurd h hn
    | tup3 _ _ _ => exact ⟨_, _, _, rfl, (al _ (List.mem_append_left _ (List.mem_append_left _ List.mem_cons_self))).1⟩
end
section
variable {μ : List SO} {p p1 : Pat} {fb : Rho → Re} {qb : R OV} {i : Nat} {o : OV}
end
section
variable {X : Cx} {W : WX} {elt tg iter c e : Expr} {ifs : List Expr} {scope : Scope} {own : List (Str × Nat)} {pos p : Pos} {f fi : Rho → Re} {h : OV → Rho → Option Rho} {tt : Rho → ReB} {te : Rho → Re} {m : Nat}
end
theorem RpAll.set {K : PySem.W.Frag} {H : Hg} {w : V} {d : PyData} (h : Rp K H w d) : ∀ {vs : List V} {ds : List PyData} {j : Nat}, RpAll K H vs ds → RpAll K H (vs.set j w) (ds.set j d)
  | _, _, _, .nil => .nil
  | _, _, 0, .cons _ r => .cons h r
  | _, _, j + 1, .cons h' r => .cons h' (RpAll.set h r)
section
variable {X : Cx} {W : WX} {a b e : Expr} {f f0 fb fv : Rho → Re} {pos p : Pos} {n : Nat}
end
section
variable {μ : List SO} {p p1 p2 pc : Pat} {f f0 fb fv : Rho → Re} {q q2 q0 : R OV} {qa : XR OV} {vs : List Nat} {h : OV → Rho → Option Rho} {tt : Rho → ReB} {te : Rho → Re} {n : Nat}
end
section
variable {μ : List SO} {p p1 p2 p3 : Pat} {fa fb : Rho → Re} {qa : XR OV}
end
section
variable {X : Cx} {W : WX} {c : Expr} {body : List Stmt} {t : Rho → ReB} {gb : Rho → Out} {pos : Pos} {m : Nat}
end
section
variable {μ : List SO} {σ : Type} {p : Pat} {st : σ → Pat} {pt : σ → Pat} {t : Rho → ReB} {body : Rho → Out} {fs : List Nat} {s0 : σ}
end
section
variable {X : Cx} {W : WX} {a b : Expr} {fb : Rho → Re} {pos : Pos} {n : Nat}
end
section
variable {μ : List SO} {p p1 : Pat} {fb : Rho → Re} {qb : R OV} {i : Nat} {d : PyData}
end
section
variable {μ : List SO} {p p1 : Pat} {i : Nat} {T : String} {g : OV → List OV → Option (OV × OV)} {fl : Rho → ReL} {ql : XR (List OV)} {x0 x : OV}
end
end Ev
namespace L2
open PySem PySem.Spec PyProof.Rows
section
variable {X : Cx} {CX : CXT} {k : Nat} {f C : Addr} {fd : FuncData} {ps : List Str} {sp : Sp} {E : St → XK} {p pos : Pos} {e : Expr} {ta : TE}
end
end L2
namespace Ev
open PySem PySem.Spec L2
open PyProof.Rows hiding St
section
variable {X : Cx} {W : WX} {e : Expr} {f0 : Rho → Re} {pos p : Pos} {m k : Nat} {c : Str} {g : List PyData → List SO → Rv}
end
section
variable {μ : List SO} {f0 : Rho → Re} {p p1 : Pat} {q0 : R OV} {c : Str}
end
section
variable {X : Cx} {W : WX} {a b : Expr} {fa fb : Rho → Re} {n : Nat}
end
end Ev
namespace RZ
open PySem PySem.Spec PyProof.Rows L2
end RZ
namespace Ev
open PySem PySem.Spec L2
open PyProof.Rows hiding St
section
variable {X : Cx} {W : WX} {a b : Expr} {fl : Rho → ReL} {p pos tpos : Pos} {elts : List Expr} {kk : Nat}
end
section
variable {μ : List SO} {fl : Rho → ReL} {p p1 : Pat} {ql : R (List OV)}
end
def shOf : List OV → Option (List PyData)
  | [] => some []
  | .sh d :: os => (shOf os).map (d :: ·)
  | _ => none
theorem shOf_some : ∀ {os : List OV} {ds : List PyData}, shOf os = some ds → os = ds.map .sh
  | [], ds, h => by cases h; rfl
  | .sh d :: os, ds, h => by
    obtain ⟨es, h1, rfl⟩ := Option.map_eq_some_iff.mp (show (shOf os).map (d :: ·) = some ds from h)
    rw [shOf_some h1]; rfl
  | .lst _ :: _, _, h => by cases h
  | .dk _ :: _, _, h => by cases h
  | .dt _ :: _, _, h => by cases h
  | .tup _ :: _, _, h => by cases h
section
variable {X : Cx} {W : WX} {e1 e2 : Expr} {f1 : Rho → Re} {pos p : Pos} {m k i : Nat} {x : Str} {g : List PyData → List SO → Rv}
end
section
variable {μ : List SO} {f1 : Rho → Re} {p p1 : Pat} {q0 : R OV} {i : Nat} {x : OV}
end
section
variable {X : Cx} {W : WX} {e l k : Expr} {te : TE} {tl tk : TO} {p3 pos : Pos}
end
section
variable {μ : List SO} {p p1 p2 p3 : Pat} {fa fl fk : Rho → Re} {qa : R OV} {ql qk : R (Option Int)}
end
section
variable {X : Cx} {W : WX} {a b e : Expr} {f f0 fb fv : Rho → Re} {pos p : Pos} {n : Nat}
end
section
variable {X : Cx} {W : WX} {a b e : Expr} {f0 fb fv : Rho → Re} {pos p : Pos} {n : Nat}
end
section
variable {X : Cx} {W : WX} {a : Expr} {fa : Rho → Re} {p p' pos pos' : Pos} {n : Nat}
end
section
variable {X : Cx}
end
section
variable {prog : Program} {w : World} {A : Around} {E : Value → Shared → Prop} {s : Shared}
open PySem.W in
end
section
variable {X : Cx}
end
section
variable {μ : List SO} {p p1 p2 p3 : Pat} {f0 fb fv : Rho → Re} {q0 q2 : R OV} {qa : XR OV} {neg : Bool}
end
mutual

inductive KeyAt (H : Hp) : NestedKey → V → Prop
  | num (i : Int) : KeyAt H (.num i) (.int i)
  | tup {b : Addr} {xs : List V} {ks : List NestedKey} : Rd H b (.tup xs) → KeysAt H ks xs → KeyAt H (.tup ks) (.ref b)
inductive KeysAt (H : Hp) : List NestedKey → List V → Prop
  | nil : KeysAt H [] []
  | cons {k : NestedKey} {ks : List NestedKey} {v : V} {vs : List V} : KeyAt H k v → KeysAt H ks vs → KeysAt H (k :: ks) (v :: vs)
end
section
variable {P : Program} {w : World} {H H' : Hp} {h : Heap}
mutual
theorem KeyAt.is (ok : HOk P w H h) : ∀ (k : NestedKey) (v : V) (u : Value), KeyAt H k v → RelV v u → NestedIs h k u
  | .none, _, _, x, _ => nomatch x
  | .text _, _, _, x, _ => nomatch x
  | .num i, _, u, x, r => by
    cases x
    obtain ⟨t, rfl⟩ := (show ∃ t, u = Value.int i t from r)
    exact .int i t
  | .tup ks, _, u, x, r => by
    cases x with
    | @tup b xs _ hb hk =>
      cases (show u = Value.ref b from r)
      obtain ⟨_, its, rv, o, h1, h2, n, h3⟩ := (show ObjOk P w H h b (.tup xs) from hb.ok ok)
      exact .tup h1 h2 h3 (KeysAt.is ok ks xs _ hk (by simpa using rv))
theorem KeysAt.is (ok : HOk P w H h) : ∀ (ks : List NestedKey) (vs : List V) (us : List Value), KeysAt H ks vs → Vals vs us → NestedAll h ks us
  | [], _, us, x, r => by cases x; cases r; exact .nil
  | k :: ks, _, us, x, r => by
    cases x with
    | cons hk hks =>
      cases r with
      | cons r1 r2 => exact .cons (KeyAt.is ok k _ _ hk r1) (KeysAt.is ok ks _ _ hks r2)
end
mutual
theorem KeyAt.to (e : ∀ b xs, Rd H b (.tup xs) → Rd H' b (.tup xs)) : ∀ (k : NestedKey) (v : V), KeyAt H k v → KeyAt H' k v
  | .none, _, x => nomatch x
  | .text _, _, x => nomatch x
  | .num i, _, x => by cases x; exact .num i
  | .tup ks, _, x => by
    cases x with
    | tup hb hk => exact .tup (e _ _ hb) (KeysAt.to e ks _ hk)
theorem KeysAt.to (e : ∀ b xs, Rd H b (.tup xs) → Rd H' b (.tup xs)) : ∀ (ks : List NestedKey) (vs : List V), KeysAt H ks vs → KeysAt H' ks vs
  | [], _, x => by cases x; exact .nil
  | k :: ks, _, x => by
    cases x with
    | cons hk hks => exact .cons (KeyAt.to e k _ hk) (KeysAt.to e ks _ hks)
end
end
section
variable {X : Cx} {pins : List (Addr × Obj)} {σ : St} {H : Hp} {s : Shared} {A : Around} {E : Value → Shared → Prop}
end
section
variable {K : PySem.W.Frag} {Hf : Hg} {H : Hp}
end
section
variable {K : PySem.W.Frag} {Hf : Hg} {T : Its} {ρ : Rho} {F : Bs} {σ : St} {H : Hp} {v u : V} {o : OV}
end
section
variable {K : PySem.W.Frag} {Hf : Hg} {T : Its} {ρ : Rho} {F : Bs} {σ : St} {H : Hp} {v u : V} {o y : OV}
end
section
variable {X : Cx} {W : WX} {a b e o : Expr} {f f0 fb fv fk : Rho → Re} {pos p ap cp : Pos} {n : Nat}
end
section
variable {prog : Program} {w : World} {K : Type} [DecidableEq K] {knd : HeapKind prog w K} {A : Around} {E : Value → Shared → Prop} {s : Shared}
end
section
variable {K : PySem.W.Frag} {Hf : Hg}
end
section
variable {μ : List SO} {p p1 p2 p3 : Pat} {f f0 fb fv fk : Rho → Re} {q0 q2 : R OV} {qa q0x qkx qvx : XR OV} {neg : Bool} {i j : Nat} {d : PyData}
end
end Ev
namespace L2
open PySem PySem.Spec PyProof.Rows
section
variable {K : PySem.W.Frag} {x qual : Str} {params : Arguments} {body : List Stmt} {scope : Scope} {f : Addr} {fd : FuncData} {ps : List Str}
end
section
variable {X : Cx} {CX : CXT} {k n : Nat} {f C : Addr} {fd : FuncData} {ps ks : List Str} {sp : Sp} {E : St → XK} {x m : Str} {p pos apos : Pos} {e o : Expr} {es : List Expr} {kws : List Keyword} {ta : TE} {t tk : TA} {g : List Value → List Value → List Value} {gV : List V → List V → List V}
end
end L2
namespace Ev
open PySem PySem.Spec L2
open PyProof.Rows hiding St
def permL {α : Type} (π : List Nat) (l : List α) : List α := π.filterMap fun i => l[i]?
def EvK (X : Cx) (W : WX) (kws : List Keyword) (f : Rho → ReL) : Prop := PK X kws (tL X W f)
section
variable {X : Cx} {W : WX} {e a b o : Expr} {es : List Expr} {kws : List Keyword} {f f0 fa fb : Rho → Re} {fl fk : Rho → ReL} {pos p apos kpos : Pos} {m k n np : Nat} {c x mn : Str} {ks : List Str} {nm : Option Str} {π : List Nat} {g : List PyData → List SO → Rv}
end
section
variable {P : Program} {w : World} {K : PySem.W.Frag} {mg : Str → Option Value} {base : Heap} {x qual c m : Str} {ag : Arguments} {bd : List Stmt} {sco : Scope} {f : Addr} {fd : FuncData} {dvs : List V} {kws : List (Str × V)} {ks : List Str} {π : List Nat}
end
section
variable {X : Cx} {W : WX} {e : Expr} {f0 : Rho → Re} {p p2 pos : Pos} {c : Str} {n : Nat}
end
def permQ (π : List Nat) (q : List PyData → R OV) : List PyData → R OV := fun ds => q (permL π ds)
def permX (π : List Nat) (q : List PyData → List SO → XR OV) : List PyData → List SO → XR OV := fun ds μ => q (permL π ds) μ
def permRQ (π : List Nat) (q : List PyData → List SO → R OV) : List PyData → List SO → R OV := fun ds μ => q (permL π ds) μ
theorem jP.perm {π : List Nat} {m : List PyData → List SO → Rv} {q : List PyData → R OV} (h : jP m q) : jP (fun ds st => m (permL π ds) st) (permQ π q) := fun ds μ => h (permL π ds) μ
theorem jXP.perm {π : List Nat} {m : List PyData → List SO → Rv} {q : List PyData → List SO → XR OV} (h : jXP m q) : jXP (fun ds st => m (permL π ds) st) (permX π q) := fun ds μ => h (permL π ds) μ
theorem jRP.perm {π : List Nat} {m : List PyData → List SO → Rv} {q : List PyData → List SO → R OV} (h : jRP m q) : jRP (fun ds st => m (permL π ds) st) (permRQ π q) := fun ds μ => h (permL π ds) μ
section
variable {μ : List SO} {p p1 p2 : Pat} {f f0 fa fb : Rho → Re} {fl fk : Rho → ReL} {qa qb : R OV} {ql qk : R (List OV)} {xl : XR (List OV)} {c : Str} {m : List PyData → List SO → Rv} {q : List PyData → List SO → R OV}
end
section
variable {μ : List SO} {σ τ : Type} {f : Rho → Re} {fi : Rho → ReI} {body : Rho → Out} {p p1 : Pat} {qa : XR OV} {qi : XR (List PyData)} {st : σ → Pat} {h : OV → Rho → Option Rho} {fs : List Nat} {i : Nat}
end
section
variable {X : Cx} {W : WX} {a b : Expr} {fa fb : Rho → Re} {pos : Pos}
end
section
variable {X : Cx} {W : WX} {a b : Expr} {fk : Rho → Re} {p : Pos} {m : Nat}
end
mutual
inductive KeyX (H : Hp) : NestedKey → V → Prop
  | non : KeyX H .none .non
  | num (i : Int) : KeyX H (.num i) (.int i)
  | txt (x : Str) : KeyX H (.text x) (.str x)
  | tup {b : Addr} {xs : List V} {ks : List NestedKey} : Rd H b (.tup xs) → KeysX H ks xs → KeyX H (.tup ks) (.ref b)
inductive KeysX (H : Hp) : List NestedKey → List V → Prop
  | nil : KeysX H [] []
  | cons {k : NestedKey} {ks : List NestedKey} {v : V} {vs : List V} : KeyX H k v → KeysX H ks vs → KeysX H (k :: ks) (v :: vs)
end
section
variable {P : Program} {w : World} {H H' : Hp} {h : Heap}
mutual
theorem KeyX.is (ok : HOk P w H h) : ∀ (k : NestedKey) (v : V) (u : Value), KeyX H k v → RelV v u → NestedIs h k u
  | .none, _, u, x, r => by
    cases x
    cases r
    exact .none
  | .text x, _, u, q, r => by
    cases q
    obtain ⟨t, rfl⟩ := (show ∃ t, u = Value.str x t from r)
    exact .text x t
  | .num i, _, u, x, r => by
    cases x
    obtain ⟨t, rfl⟩ := (show ∃ t, u = Value.int i t from r)
    exact .int i t
  | .tup ks, _, u, x, r => by
    cases x with
    | @tup b xs _ hb hk =>
      cases (show u = Value.ref b from r)
      obtain ⟨_, its, rv, o, h1, h2, n, h3⟩ := (show ObjOk P w H h b (.tup xs) from hb.ok ok)
      exact .tup h1 h2 h3 (KeysX.is ok ks xs _ hk (by simpa using rv))
theorem KeysX.is (ok : HOk P w H h) : ∀ (ks : List NestedKey) (vs : List V) (us : List Value), KeysX H ks vs → Vals vs us → NestedAll h ks us
  | [], _, us, x, r => by cases x; cases r; exact .nil
  | k :: ks, _, us, x, r => by
    cases x with
    | cons hk hks =>
      cases r with
      | cons r1 r2 => exact .cons (KeyX.is ok k _ _ hk r1) (KeysX.is ok ks _ _ hks r2)
end
end
mutual
theorem NestedIs.kept {h h' : Heap} (e : ∀ b u, h.get? b = some u → h'.get? b = some u) : ∀ (k : NestedKey) (v : Value), NestedIs h k v → NestedIs h' k v
  | .none, _, x => by cases x; exact .none
  | .text _, _, x => by cases x; exact .text _ _
  | .num _, _, x => by
    cases x with
    | bool b => exact .bool b
    | int _ t => exact .int _ t
  | .tup ks, _, x => by
    cases x with
    | tup h1 h2 h3 h4 => exact .tup (e _ _ h1) h2 h3 (NestedAll.kept e ks _ h4)
theorem NestedAll.kept {h h' : Heap} (e : ∀ b u, h.get? b = some u → h'.get? b = some u) : ∀ (ks : List NestedKey) (vs : List Value), NestedAll h ks vs → NestedAll h' ks vs
  | [], _, x => by cases x; exact .nil
  | k :: ks, _, x => by
    cases x with
    | cons h1 h2 => exact .cons (NestedIs.kept e k _ h1) (NestedAll.kept e ks _ h2)
end
section
variable {X : Cx}
end
section
variable {K : PySem.W.Frag} {Hf : Hg} {H : Hp}
variable {T : Its} {ρ : Rho} {F : Bs} {σ : St} {p : Addr} {u : HO} {so : SO}
end
section
variable {prog : Program} {w : World} {A : Around} {E : Value → Shared → Prop}
end
section
variable {X : Cx} {W : WX} {e : Expr} {f : Rho → Re} {p pos : Pos} {m : Nat}
end
section
variable {μ : List SO} {p p1 p2 : Pat} {f f0 fk1 fk2 : Rho → Re} {q q0 q1 q2 : R OV} {qa : XR OV} {i : Nat} {x : OV}
end
mutual
def noDk : OV → Bool
  | .sh _ => true
  | .lst os => noDks os
  | .tup os => noDks os
  | .dk _ => false
  | .dt _ => false
def noDks : List OV → Bool
  | [] => true
  | o :: os => noDk o && noDks os
end
section
variable {K : PySem.W.Frag} {Hf : Hg}
mutual
theorem Own.nodict : ∀ {v : V} {o : OV} {bs : Bs}, Own K Hf v o bs → noDk o = true → ∀ q ∈ bs, (∀ kvs, q.2 ≠ .dK kvs) ∧ ∀ kvs, q.2 ≠ .dT kvs
  | _, _, _, .sh _, _, q, hq => absurd hq List.not_mem_nil
  | _, _, _, .lst h, n, q, hq => by
    rw [noDk] at n
    rcases List.mem_cons.mp hq with rfl | hq
    · exact ⟨fun _ e => (by cases e), fun _ e => (by cases e)⟩
    · exact OwnL.nodict h n q hq
  | _, _, _, .tup _ h, n, q, hq => by
    rw [noDk] at n
    rcases List.mem_cons.mp hq with rfl | hq
    · exact ⟨fun _ e => (by cases e), fun _ e => (by cases e)⟩
    · exact OwnL.nodict h n q hq
  | _, _, _, .tup3 _ _ h, n, q, hq => by
    rw [noDk] at n
    rcases List.mem_cons.mp hq with rfl | hq
    · exact ⟨fun _ e => (by cases e), fun _ e => (by cases e)⟩
    · exact OwnL.nodict h n q hq
  | _, _, _, .dk _ _ _, n, _, _ => by rw [noDk] at n; cases n
  | _, _, _, .dt _ _ _, n, _, _ => by rw [noDk] at n; cases n
theorem OwnL.nodict : ∀ {vs : List V} {os : List OV} {bs : Bs}, OwnL K Hf vs os bs → noDks os = true → ∀ q ∈ bs, (∀ kvs, q.2 ≠ .dK kvs) ∧ ∀ kvs, q.2 ≠ .dT kvs
  | _, _, _, .nil, _, q, hq => absurd hq List.not_mem_nil
  | _, _, _, .cons h r, n, q, hq => by
    rw [noDks, Bool.and_eq_true] at n
    rcases List.mem_append.mp hq with hq | hq
    · exact Own.nodict h n.1 q hq
    · exact OwnL.nodict r n.2 q hq
end
def keepO : Option OV → Option OV
  | some (.sh d) => some (.sh d)
  | _ => none
theorem keep_slots : ∀ {σ : St} {ρ : Sl} {its : Its} {b : Bs}, Slots σ ρ its → OwnI K Hf its b → ∃ its1, Slots σ (ρ.map keepO) its1 ∧ OwnI K Hf its1 []
  | _, _, _, _, .nil, _ => ⟨[], .nil, .nil⟩
  | _, _, _, _, .no r, h => by
    obtain ⟨i1, a, b⟩ := keep_slots r h
    exact ⟨i1, .no a, b⟩
  | _, _, _, _, .yes (v := v) (o := o) r, h => by
    cases h with
    | cons h1 h2 =>
      obtain ⟨i1, a, b⟩ := keep_slots r h2
      cases o with
      | sh d =>
        cases h1 with
        | sh rp => exact ⟨(v, .sh d) :: i1, .yes a, .cons (.sh rp) b⟩
      | lst _ => exact ⟨i1, .no a, b⟩
      | dk _ => exact ⟨i1, .no a, b⟩
      | dt _ => exact ⟨i1, .no a, b⟩
      | tup _ => exact ⟨i1, .no a, b⟩
theorem ownI_nil {A B : Its} (h : OwnI K Hf (A ++ B) []) : OwnI K Hf A [] ∧ OwnI K Hf B [] := by
  obtain ⟨b1, b2, e, h1, h2⟩ := h.split
  have e := List.append_eq_nil_iff.mp e.symm
  rw [e.1] at h1
  rw [e.2] at h2
  exact ⟨h1, h2⟩
def thawSl (i : Nat) (sl : Sl) (o : OV) : Sl := (sl.map keepO).set i (some (.sh (fz o)))
theorem thaw_slots {σ : St} {ρ : Sl} {its : Its} {b : Bs} {i : Nat} {v : V} {o : OV} (hs : Slots σ ρ its) (h : OwnI K Hf its b) (hr : ρ[i]? = some (some o)) (hv : σ[i]? = some (some v)) (r : Rp K Hf v (fz o)) : ∃ its1, Slots σ (thawSl i ρ o) its1 ∧ OwnI K Hf its1 [] := by
  obtain ⟨i1, a, b⟩ := keep_slots hs h
  have hi : i < (ρ.map keepO).length := by
    rw [List.length_map]
    exact (List.getElem?_eq_some_iff.mp hr).1
  obtain ⟨A, M, B, rfl, q⟩ := a.put v (.sh (fz o)) hi
  rw [set_same hv] at q
  obtain ⟨b1, b2⟩ := ownI_nil b
  obtain ⟨b2, b3⟩ := ownI_nil b2
  exact ⟨_, q, b1.append (.cons (.sh r) b3)⟩
end
def bThaw (i : Nat) (f : Rho → ReB) (ρ : Rho) : ReB := match ρ.sl[i]? with
  | some (some o) => if noDk o = true ∧ ρ.st.isEmpty = true then (match f ⟨thawSl i ρ.sl o, []⟩ with
    | .ok b _ => .ok b ρ
    | _ => .stk) else .stk
  | _ => .stk
section
variable {X : Cx} {W : WX} {e : Expr} {f : Rho → ReB} {i : Nat}
theorem et_thaw (h : EvT X W e f) : EvT X W e (bThaw i f) := pt_w h fun σ H Q ⟨Hf, T, ρ, F, s, hq⟩ => by
  unfold bThaw at hq
  cases q : ρ.sl[i]? with
  | none => simp only [q] at hq; exact hq.elim
  | some z =>
    cases z with
    | none => simp only [q] at hq; exact hq.elim
    | some o =>
      simp only [q] at hq
      by_cases c : noDk o = true ∧ ρ.st.isEmpty = true
      case neg => rw [if_neg c] at hq; exact hq.elim
      rw [if_pos c] at hq
      have hst : ρ.st = [] := List.isEmpty_iff.mp c.2
      obtain ⟨its, sb, hs, ht, sx⟩ := s.ex
      have ht0 := ht
      rw [hst] at ht
      obtain ⟨em, rfl⟩ : Hf.m = [] ∧ sb = [] := by
        cases hmm : Hf.m with
        | nil => rw [hmm] at ht; cases ht; exact ⟨rfl, rfl⟩
        | cons a l => rw [hmm] at ht; cases ht
      obtain ⟨v, A, B, hv, rfl, h3, h4⟩ := hs.get q
      have pm : (T ++ (A ++ (v, o) :: B)).Perm ((v, o) :: (T ++ (A ++ B))) := by
        rw [← List.append_assoc, ← List.append_assoc]
        exact List.perm_middle
      obtain ⟨⟨bs, own, nd, al⟩, ex, mm⟩ := sx.perm pm
      cases own with
      | @cons _ _ _ b1 b2 own r =>
        have nd : ((b1 ++ b2 ++ F).map (·.1)).Nodup := nd
        have al : ∀ p ∈ b1 ++ b2 ++ F, H p.1 = some p.2 ∧ Fre Hf p := al
        have nd1 : (b1.map (·.1)).Nodup := by
          rw [List.append_assoc, List.map_append] at nd
          exact (List.nodup_append.mp nd).1
        have nd2 : ((b2 ++ F).map (·.1)).Nodup := by
          rw [List.append_assoc, List.map_append] at nd
          exact (List.nodup_append.mp nd).2.1
        have key : ∀ q ∈ b1, Fre Hf q := fun q hq => (al q (by simp [hq])).2
        have mem : ∀ q ∈ b1, addB Hf.h b1 q.1 = some q.2 := fun q hq => addB_mem nd1 hq
        have sm : Same Hf (Hf.on (addB Hf.h b1)) := same_l2 fun a u hu => by
          by_cases hm : a ∈ b1.map (·.1)
          · obtain ⟨q, hq, rfl⟩ := List.mem_map.mp hm
            rw [mem q hq]
            rcases key q hq with z | ⟨xs, z1, z2⟩
            · rw [z] at hu; cases hu
            · rw [z2] at hu; rw [z1]; exact hu
          · rw [addB_not hm]; exact hu
        have rv : Rp X.K (Hf.on (addB Hf.h b1)) v (fz o) := own.rp (.of sm) mem
        obtain ⟨bT, bR, eb, oT, oR⟩ := r.split
        obtain ⟨bA, bB, eb2, oA, oB⟩ := oR.split
        obtain ⟨its1, hs1, ow1⟩ := thaw_slots hs ((oA.mono (.of sm)).append (.cons (own.mono (.of sm)) (oB.mono (.of sm)))) q hv rv
        have subX : Ext (Hf.on (addB Hf.h b1)) ((Hf.on (addB Hf.h b1)).on H) := Ext.mkOn fun a u hu => by
          rcases addB_cases hu with m | m
          · exact .inl (al (a, u) (by simp [m])).1
          · exact ex.1 a u m
        have alF : ∀ p ∈ b2 ++ F, H p.1 = some p.2 ∧ Fre (Hf.on (addB Hf.h b1)) p := fun p hp => by
          have hp' : p ∈ b1 ++ b2 ++ F := by rw [List.append_assoc]; exact List.mem_append_right _ hp
          refine ⟨(al p hp').1, (al p hp').2.to ?_⟩
          show addB Hf.h b1 p.1 = _
          rw [addB_not]
          intro hm
          obtain ⟨z, hz, ez⟩ := List.mem_map.mp hm
          rw [List.append_assoc, List.map_append] at nd
          exact (List.nodup_append.mp nd).2.2 p.1 (List.mem_map.mpr ⟨z, hz, ez⟩) p.1 (List.mem_map.mpr ⟨p, hp, rfl⟩) rfl
        have s1 : SI X.K (Hf.on (addB Hf.h b1)) [] ⟨thawSl i ρ.sl o, []⟩ (b2 ++ F) σ H := by
          refine ⟨its1, [], hs1, ?_, ⟨[], ow1, nd2, alF⟩, subX, rfl⟩
          show StoL _ _ Hf.m [] []
          rw [em]
          exact .nil
        refine ⟨_, [], _, b2 ++ F, s1, ?_⟩
        cases qf : f ⟨thawSl i ρ.sl o, []⟩ with
        | stk => rw [qf] at hq; exact hq.elim
        | exc e ρ2 => rw [qf] at hq; exact hq.elim
        | ok b ρ2 =>
          rw [qf] at hq
          intro H' Hf' sm' s'
          have eX : Ext (Hf.on (addB Hf.h b1)) (Hf'.on H') := Ext.trans sm' s'.sub
          have h1 : ∀ p ∈ b1, H' p.1 = some p.2 := fun p hp => by
            have nn := own.nodict c.1 p hp
            rcases eX.1 p.1 p.2 (mem p hp) with z | ⟨(⟨kvs, z⟩ | ⟨kvs, z⟩), _⟩
            · exact z
            · exact absurd z (nn.1 kvs)
            · exact absurd z (nn.2 kvs)
          obtain ⟨its2, sb2, _, _, ⟨bs2, _, _, al2⟩, _, _⟩ := s'
          have h2 : ∀ p ∈ b2 ++ F, H' p.1 = some p.2 := fun p hp => (al2 p (List.mem_append_right _ (List.mem_append_right _ hp))).1
          have sx2 : SX X.K Hf ((v, o) :: (T ++ (A ++ B))) (fr ([] ++ F) Hf.m) H' := by
            refine ⟨⟨b1 ++ b2, .cons own r, nd, fun p hp => ?_⟩, (Ext.trans sm eX).on, rfl⟩
            have hp : p ∈ b1 ++ b2 ++ F := hp
            refine ⟨?_, (al p hp).2⟩
            rw [List.append_assoc] at hp
            rcases List.mem_append.mp hp with hp | hp
            · exact h1 p hp
            · exact h2 p hp
          exact hq H' Hf (Same.refl _) ⟨A ++ (v, o) :: B, [], hs, ht0, sx2.perm pm.symm⟩
def eCpB (i : Nat) (ρ : Rho) : Re := match ρ.sl[i]? with
  | some (some (.lst os)) => (match shOf os with
    | some ds => .ok (.lst (ds.map .sh)) ρ
    | none => .stk)
  | _ => .stk
theorem ev_cpB {p pos : Pos} (hg : Gl X "list") (hm : X.mg "list" = none) (hx : PE X e (tVar i)) (hst : starEach [e] X.env = (false, eval e X.env) :: starEach [] X.env := by rfl) (hpl : (backTo pos (starEach [] X.env)).any (·.1) = false := by rfl) :
    EvE X W (.Call (.Name "list" p) [e] [] pos) (eCpB i) :=
  pe_w (pe_callTy call_list_of hg hm (by decide +kernel) (pa_cons hx pa_nil hst) (by decide) (by decide) hst hpl) fun σ H Q ⟨Hf, T, ρ, F, s, h⟩ => by
    unfold eCpB at h
    cases q : ρ.sl[i]? with
    | none => simp only [q] at h; exact h.elim
    | some z =>
      cases z with
      | none => simp only [q] at h; exact h.elim
      | some o =>
        cases o with
        | lst os =>
          simp only [q] at h
          cases q2 : shOf os with
          | none => simp only [q2] at h; exact h.elim
          | some ds =>
            simp only [q2] at h
            obtain ⟨v, hv, s2, _⟩ := s.take q
            refine ⟨v, hv, ?_⟩
            obtain ⟨its, F2, sx, bk⟩ := s2.ex2
            have eos := shOf_some q2
            obtain ⟨a, vs, rfl, ha, rr⟩ : ∃ a vs, v = .ref a ∧ H a = some (.lst vs) ∧ RpAll X.K Hf vs ds := by
              obtain ⟨⟨bs, own, nd, al⟩, _, _⟩ := sx
              cases own with
              | cons own r =>
                rw [eos] at own
                cases own with
                | lst ol =>
                  obtain ⟨rvs, rfl⟩ := ol.to_rp
                  exact ⟨_, _, rfl, (al (_, _) (by simp)).1, rvs⟩
            refine ⟨a, vs, rfl, .inl (SqL.of ha), fun l hl => ?_⟩
            obtain ⟨its3, F3, sx3, bk3⟩ := s.ex2
            exact h (.ref l) _ Hf (Same.refl _) (bk3 ((.ref l, .lst (ds.map .sh)) :: T) Hf _ (Same.refl _) (SX.newOwn (C := []) (its := T ++ its3) sx3 hl fun bs hbs => by
              cases hbs
              exact .lst (OwnL.of_rp rr)))
        | sh _ => simp only [q] at h; exact h.elim
        | dk _ => simp only [q] at h; exact h.elim
        | dt _ => simp only [q] at h; exact h.elim
        | tup _ => simp only [q] at h; exact h.elim
end
section
variable {K : PySem.W.Frag} {Hf : Hg} {H : Hp} {its : Its} {F : Fr}
theorem SX.untup {v : V} {o1 o2 : OV} (s : SX K Hf ((v, .tup [o1, o2]) :: its) F H) : ∃ a v1 v2, v = .ref a ∧ SqT K H a [v1, v2] ∧ SX K Hf ((v1, o1) :: (v2, o2) :: its) F H := by
  obtain ⟨⟨bs, h, n, al⟩, e, mm⟩ := s
  cases h with
  | @cons _ _ _ b1 b2 h r =>
    cases h with
    | @tup a vs _ b0 hn q =>
      cases q with
      | @cons v1 _ _ _ c1 c2 q1 q =>
        cases q with
        | @cons v2 _ _ _ c3 c4 q2 q =>
          cases q
          refine ⟨a, v1, v2, rfl, SqT.of (al (a, .tup [v1, v2]) (by simp)).1, ⟨c1 ++ (c3 ++ b2), .cons q1 (.cons q2 r), ?_, fun p hp => al p ?_⟩, e, mm⟩
          · have n' : (a :: ((c1 ++ (c3 ++ b2) ++ F.b).map (·.1))).Nodup := by simpa using n
            exact (List.nodup_cons.mp n').2
          · have : p ∈ (a, HO.tup [v1, v2]) :: (c1 ++ (c3 ++ b2) ++ F.b) := List.mem_cons_of_mem _ hp
            simpa using this
    | tup3 t l _ => exact absurd l (by simp)
end
def sUnp (ix iy iz : Nat) (t : Rho → ReB) (g : Rho → Out) (ρ : Rho) : Out := match ρ.sl[iz]? with
  | some (some (.tup [o1, o2])) => sIf t g sNil (((ρ.set iz none).set ix (some o1)).set iy (some o2))
  | _ => .stk
section
variable {X : Cx} {W : WX} {x y : Str} {ez ez2 b : Expr} {bs : List Expr} {body rest : List Stmt} {tf : Rho → ReB} {g1 g3 : Rho → Out} {px py pt pos1 pos2 p p2 p3 p4 bpos : Pos} {m ix iy iz k j : Nat}
theorem eb_unp (G : Good X W m) (hz : PE X ez (tVar iz)) (hz2 : PE X ez2 (tVar iz)) (hN : X.N.Nodup) (hx : X.N[ix]? = some x) (hy : X.N[iy]? = some y) (lx : Loc X.env.scope x) (ly : Loc X.env.scope y) (hxy : (ix != iz && iy != iz) = true)
    (fx : X.fn x = true ∨ X.env.scope.names.lookup x = some .local) (fy : X.fn y = true ∨ X.env.scope.names.lookup y = some .local)
    (hl : Gl X "len") (hm : X.mg "len" = none) (ht : EvW X W (.BoolOp .Or (b :: bs) bpos) tf) (hb : EvB X W body g1) (hr : EvB X W rest g3)
    (hn : (assignEach [.Name x px, .Name y py] X.env).length = 2 := by rfl) (hst : (assignEach [.Name x px, .Name y py] X.env).findIdx? (·.1) = none := by rfl)
    (hc1 : (assignEach [.Name x px, .Name y py] X.env).map (·.2) = assign (.Name x px) X.env :: (assignEach [.Name y py] X.env).map (·.2) := by rfl) (hc2 : (assignEach [.Name y py] X.env).map (·.2) = assign (.Name y py) X.env :: (assignEach [] X.env).map (·.2) := by rfl)
    (hs : swapsWithSole [.Tuple [.Name x px, .Name y py] k pt] ez pos1.line X.env = pure false := by rfl) (hw : swappedStores [.Tuple [.Name x px, .Name y py] k pt] ez X.env = pure none := by rfl)
    (h1 : (assignEach [.Tuple [.Name x px, .Name y py] k pt] X.env).map (·.2) = [assign (.Tuple [.Name x px, .Name y py] k pt) X.env] := by rfl)
    (hse : starEach [ez2] X.env = (false, eval ez2 X.env) :: starEach [] X.env := by rfl) (hpl : (backTo p2 (starEach [] X.env)).any (·.1) = false := by rfl) (hbm : behindInMarks .NotEq (.Constant (.int 2) j p4) = false := by first | exact nobehind _ (by decide) (by decide) | rfl) :
    EvB X W (.Assign [.Tuple [.Name x px, .Name y py] k pt] ez pos1 :: .If (.BoolOp .Or (.Compare (.Call (.Name "len" p) [ez2] [] p2) [.NotEq] [.Constant (.int 2) j p4] p3 :: b :: bs) bpos) body [] pos2 :: rest) (sCons (sUnp ix iy iz tf g1) g3) := by
  have hlen := pe_callB (X := X) call_len_seq hl hm boot_len (pa_cons hz2 pa_nil hse) (by decide) (by decide) hse hpl (p := p)
  have h0 := pt_cmpR op_ne hlen (pe_int (i := 2) (j := j) (pos := p4)) hbm (pos := p3)
  refine pss_w (pss_cons (ps_asg hz (pg_tup G.calm (pgs_cons (pg_name hN hx lx fx) (pgs_cons (pg_name hN hy ly fy) pgs_nil hc2) hc1) hn hst) hs hw h1) (pss_cons (ps_if (PW.pt (pw_or h0 ht)) hb (eb_nil (W := W))) hr)) fun D σ H ⟨Hf, ρ, F, s, h⟩ => ?_
  simp only [Bool.and_eq_true, bne_iff_ne, ne_eq] at hxy
  cases q : ρ.sl[iz]? with
  | none => unfold sCons sUnp at h; simp only [q] at h; exact h.elim
  | some z =>
    cases z with
    | none => unfold sCons sUnp at h; simp only [q] at h; exact h.elim
    | some o =>
      cases o with
      | tup os =>
        match os, q with
        | [], q => unfold sCons sUnp at h; simp only [q] at h; exact h.elim
        | [_], q => unfold sCons sUnp at h; simp only [q] at h; exact h.elim
        | _ :: _ :: _ :: _, q => unfold sCons sUnp at h; simp only [q] at h; exact h.elim
        | [o1, o2], q =>
          have eU : sUnp ix iy iz tf g1 ρ = sIf tf g1 sNil (((ρ.set iz none).set ix (some o1)).set iy (some o2)) := by
            unfold sUnp; rw [q]
          obtain ⟨v, hv, s2, _⟩ := s.take q
          obtain ⟨its, F2, sx, bk⟩ := s2.ex2
          obtain ⟨a, v1, v2, rfl, ta, sx2⟩ := SX.untup (its := its) sx
          have s3 : SI X.K Hf [(v1, o1), (v2, o2)] (ρ.set iz none) F σ H := bk [(v1, o1), (v2, o2)] _ _ (Same.refl _) sx2
          have s4 := (s3.put' ix).put' iy
          have hzv : ((σ.set ix (some v1)).set iy (some v2))[iz]? = some (some (.ref a)) := by
            rw [List.getElem?_set_ne hxy.2, List.getElem?_set_ne hxy.1, hv]
          have h' : PostS X W Hf F (sIf tf g1 sNil (((ρ.set iz none).set ix (some o1)).set iy (some o2))) { D with nx := tSt X W g3 D } := by
            unfold sCons at h
            rw [eU] at h
            cases qq : sIf tf g1 sNil (((ρ.set iz none).set ix (some o1)).set iy (some o2)) with
            | next ρ' => rw [qq] at h; exact fun σ' H' Hf' sm s' => ⟨Hf', ρ', F, s', PostS.mono sm h⟩
            | ret o ρ' => rw [qq] at h; exact h
            | brk ρ' => rw [qq] at h; exact h
            | cnt ρ' => rw [qq] at h; exact h
            | exc e ρ' => rw [qq] at h; exact h
            | stk => rw [qq] at h; exact h
          refine ⟨.ref a, hv, a, [v1, v2], rfl, ta, rfl, v1, [v2], rfl, v2, [], rfl, rfl, ?_⟩
          refine ⟨.ref a, hzv, ⟨a, [v1, v2], rfl, .inr ta, rfl, false, rfl, ?_⟩⟩
          show tT X W tf _ H _
          refine ⟨Hf, [], _, F, s4, PostB.bindBS h' fun b ρ1 H1 Hf1 sm s1 h1 => ?_⟩
          cases b with
          | true => rw [if_pos rfl]; rw [if_pos rfl] at h1; exact ⟨Hf1, ρ1, F, s1, h1⟩
          | false => rw [if_neg Bool.false_ne_true]; rw [if_neg Bool.false_ne_true] at h1; exact ⟨Hf1, ρ1, F, s1, h1⟩
      | sh _ => unfold sCons sUnp at h; simp only [q] at h; exact h.elim
      | lst _ => unfold sCons sUnp at h; simp only [q] at h; exact h.elim
      | dk _ => unfold sCons sUnp at h; simp only [q] at h; exact h.elim
      | dt _ => unfold sCons sUnp at h; simp only [q] at h; exact h.elim
end
def keepB : Ps → Bool
  | .no => true
  | .un => true
  | .ex (.sh _) => true
  | _ => false
theorem keep_mt : ∀ {p : Pat} {ρ : Sl}, MtL p ρ → p.all keepB = true → MtL p (ρ.map keepO)
  | [], [], _, _ => trivial
  | [], _ :: _, m, _ => m.elim
  | _ :: _, [], m, _ => m.elim
  | s :: p, x :: ρ, m, k => by
    rw [List.all_cons, Bool.and_eq_true] at k
    refine ⟨?_, keep_mt m.2 k.2⟩
    cases s with
    | no => trivial
    | un =>
      have : x = none := m.1
      subst this
      rfl
    | ex o =>
      have : x = some o := m.1
      subst this
      cases o with
      | sh d => rfl
      | _ => exact absurd k.1 Bool.false_ne_true
    | fr d => exact absurd k.1 Bool.false_ne_true
def thawR (μ : List SO) (o : OV) (q : R Bool) : R Bool := if noDk o = true ∧ μ.isEmpty = true then noX q else .stk
def cpBR (o : OV) : R OV := match o with
  | .lst os => match shOf os with
    | some ds => .ok (.lst (ds.map .sh))
    | none => .stk
  | _ => .stk
def untR (o : OV) : R (OV × OV) := match o with
  | .tup [a, b] => .ok (a, b)
  | _ => .stk
section
variable {μ : List SO} {p p0 p2 : Pat} {t : Rho → ReB} {g : Rho → Out} {q : R Bool} {i ix iy iz : Nat} {o : OV}
theorem j_thaw (h1 : p[i]? = some (.ex o)) (w : Ple p p0) (k : p0.all keepB = true) (hf : jB [] t (p0.set i (.ex (.sh (fz o)))) q p2) : jB μ (bThaw i t) p (thawR μ o q) p := fun ρ m => by
  obtain ⟨x, e1, rfl⟩ := m.at h1
  unfold thawR bThaw
  rw [e1]
  by_cases c : noDk o = true ∧ μ.isEmpty = true
  · have c' : noDk o = true ∧ ρ.st.isEmpty = true := by rw [m.2]; exact c
    have m1 : Mt [] (p0.set i (.ex (.sh (fz o)))) ⟨thawSl i ρ.sl o, []⟩ := ⟨(keep_mt (w.mtL m.1) k).set i rfl, rfl⟩
    have a := hf _ m1
    simp only [if_pos c, if_pos c']
    cases q with
    | stk => trivial
    | exc e => trivial
    | ok b =>
      obtain ⟨ρ', a, _⟩ := a
      simp only [a, noX_ok]
      exact ⟨ρ, rfl, m⟩
  · rw [if_neg c]; trivial
theorem j_cpB (h1 : p[i]? = some (.ex o)) : jE μ (eCpB i) p (cpBR o) p := fun ρ m => by
  obtain ⟨x, e1, rfl⟩ := m.at h1
  unfold cpBR eCpB
  rw [e1]
  cases o with
  | lst os =>
    simp only
    cases shOf os with
    | none => trivial
    | some ds => exact ⟨ρ, rfl, m⟩
  | _ => trivial
theorem js_unp {qq : OV × OV → O Unit} {st : OV × OV → Pat} (h1 : p[iz]? = some (.ex o)) (h : ∀ ab : OV × OV, jS μ (sIf t g sNil) (((p.set iz .un).set ix (.ex ab.1)).set iy (.ex ab.2)) (qq ab) (fun _ => st ab)) :
    jS μ (sUnp ix iy iz t g) p (O.bind (O.of (untR o)) fun ab => O.bind (qq ab) fun _ => .next ab) st := fun ρ m => by
  obtain ⟨x, e1, rfl⟩ := m.at h1
  unfold untR
  cases o with
  | tup os =>
    match os, h1, e1 with
    | [], _, _ => trivial
    | [_], _, _ => trivial
    | _ :: _ :: _ :: _, _, _ => trivial
    | [a, b], h1, e1 =>
      have eU : sUnp ix iy iz t g ρ = sIf t g sNil (((ρ.set iz none).set ix (some a)).set iy (some b)) := by
        unfold sUnp; rw [e1]
      rw [eU]
      have z := h (a, b) _ (((m.set iz (s := .un) (x := none) rfl).set ix (s := .ex a) (x := some a) rfl).set iy (s := .ex b) (x := some b) rfl)
      simp only [O.of_ok, O.bind_next]
      cases qe : qq (a, b) with
      | stk => trivial
      | next s => rw [qe] at z; exact z
      | ret o => rw [qe] at z; exact z
      | exc e => rw [qe] at z; exact z
  | _ => trivial
end
def lensO : List OV → Option (List Nat)
  | [] => some []
  | .lst xs :: os => (lensO os).map (xs.length :: ·)
  | _ => none
theorem lensO_len : ∀ {os : List OV} {ls : List Nat}, lensO os = some ls → ls.length = os.length
  | [], ls, h => by cases h; rfl
  | .lst xs :: os, ls, h => by
    obtain ⟨l, h1, rfl⟩ := Option.map_eq_some_iff.mp h
    simp [lensO_len h1]
  | .sh _ :: _, _, h => by cases h
  | .dk _ :: _, _, h => by cases h
  | .dt _ :: _, _, h => by cases h
  | .tup _ :: _, _, h => by cases h
section
variable {K : PySem.W.Frag} {Hf : Hg} {H : Hp} {its : Its} {F : Fr}
theorem ownL_lists : ∀ {vs : List V} {os : List OV} {bs : Bs} {ls : List Nat}, OwnL K Hf vs os bs → (∀ q ∈ bs, H q.1 = some q.2) → lensO os = some ls → ∀ (j : Nat) (v : V), vs[j]? = some v → ∃ p ys, v = .ref p ∧ H p = some (.lst ys) ∧ ls.getD j 0 = ys.length
  | _, _, _, _, .nil, _, _, j, v, e => by simp at e
  | _, _, _, _, .cons (o := o) h r, a, l, j, v, e => by
    cases o with
    | lst xs =>
      obtain ⟨ls', h1, rfl⟩ := Option.map_eq_some_iff.mp (show (lensO _).map (xs.length :: ·) = some _ from l)
      cases j with
      | zero =>
        have e := Option.some.inj e
        subst e
        cases h with
        | @lst p ys _ b0 ol => exact ⟨p, ys, rfl, a (p, .lst ys) (by simp), by rw [ol.len]; rfl⟩
      | succ j =>
        obtain ⟨p, ys, e1, e2, e3⟩ := ownL_lists r (fun q hq => a q (List.mem_append_right _ hq)) h1 j v (by simpa using e)
        exact ⟨p, ys, e1, e2, by simpa using e3⟩
    | sh _ => cases l
    | dk _ => cases l
    | dt _ => cases l
    | tup _ => cases l
theorem SX.pick {vs : List V} {os : List OV} {k : Nat} {v : V} {o : OV} (s : SX K Hf (vs.zip os ++ its) F H) (h1 : vs[k]? = some v) (h2 : os[k]? = some o) : SX K Hf ((v, o) :: its) F H := by
  have hz : (vs.zip os)[k]? = some (v, o) := by rw [List.getElem?_zip_eq_some]; exact ⟨h1, h2⟩
  obtain ⟨hk, e⟩ := List.getElem?_eq_some_iff.mp hz
  have e2 : vs.zip os = (vs.zip os).take k ++ (v, o) :: (vs.zip os).drop (k + 1) := by
    conv => lhs; rw [← List.take_append_drop k (vs.zip os)]
    rw [List.drop_eq_getElem_cons hk, e]
  rw [e2] at s
  have pm : ((vs.zip os).take k ++ (v, o) :: (vs.zip os).drop (k + 1) ++ its).Perm (((vs.zip os).take k ++ (vs.zip os).drop (k + 1)) ++ ((v, o) :: its)) := by
    rw [List.append_assoc, List.append_assoc]
    refine List.Perm.append_left _ ?_
    exact (List.perm_middle (a := (v, o)) (l₁ := (vs.zip os).drop (k + 1)) (l₂ := its)).symm
  exact (s.perm pm).tail
theorem SI.items {T : Its} {ρ : Rho} {i : Nat} {F : Bs} {σ : St} {os : List OV} (s : SI K Hf T ρ F σ H) (q : ρ.sl[i]? = some (some (.lst os))) : ∃ a vs, σ[i]? = some (some (.ref a)) ∧ H a = some (.lst vs) ∧ vs.length = os.length ∧
    (∀ ls, lensO os = some ls → ∀ (j : Nat) (v : V), vs[j]? = some v → ∃ p ys, v = .ref p ∧ H p = some (.lst ys) ∧ ls.getD j 0 = ys.length) ∧
    ∀ (k : Nat) (v : V) (o : OV), vs[k]? = some v → os[k]? = some o → SI K Hf ((v, o) :: T) (ρ.set i none) F σ H := by
  obtain ⟨v, hv, s2, _⟩ := s.take q
  obtain ⟨its, F2, sx, bk⟩ := s2.ex2
  have sx0 := sx
  obtain ⟨⟨bs, own, nd, al⟩, _, _⟩ := sx
  cases own with
  | @cons _ _ _ b1 b2 own r =>
    cases own with
    | @lst a vs _ b0 ol =>
      have ha : H a = some (.lst vs) := (al (a, .lst vs) (by simp)).1
      refine ⟨a, vs, hv, ha, ol.len, fun ls hl j v e => ownL_lists ol (fun q hq => (al q (by simp [hq])).1) hl j v e, fun k v o h1 h2 => ?_⟩
      obtain ⟨ws, _, hw, sx1⟩ := SX.unlist (its := T ++ its) sx0
      rw [ha] at hw
      obtain rfl : vs = ws := by injection hw with hw; injection hw
      exact bk ((v, o) :: T) _ _ (Same.refl _) (SX.pick sx1 h1 h2)
end
def eTkI (i : Nat) (z : Int) (ρ : Rho) : Re := match ρ.sl[i]? with
  | some (some (.lst os)) => (match ixN os.length z with
    | some k => match os[k]? with
      | some o => .ok o (ρ.set i none)
      | none => .stk
    | none => .stk)
  | _ => .stk
def eTkM (i : Nat) (ρ : Rho) : Re := match ρ.sl[i]? with
  | some (some (.lst os)) => (match lensO os with
    | some ls => if 0 < os.length then (match os[minAt ls]? with
      | some o => .ok o (ρ.set i none)
      | none => .stk) else .stk
    | none => .stk)
  | _ => .stk
section
variable {X : Cx} {W : WX} {e a b : Expr} {i m : Nat} {z : Int} {pos p p2 kp : Pos}
theorem ev_tkI (ha : PE X a (tVar i)) (hb : PE X b (tC (.int z))) (hs : PlainIx b := by intro _ _; rfl) : EvE X W (.Subscript a b pos) (eTkI i z) :=
  pe_w (pe_ix ix_list ha hb hs) fun σ H Q ⟨Hf, T, ρ, F, s, h⟩ => by
    unfold eTkI at h
    cases q : ρ.sl[i]? with
    | none => simp only [q] at h; exact h.elim
    | some y =>
      cases y with
      | none => simp only [q] at h; exact h.elim
      | some o =>
        cases o with
        | lst os =>
          simp only [q] at h
          cases q1 : ixN os.length z with
          | none => simp only [q1] at h; exact h.elim
          | some k =>
            simp only [q1] at h
            cases q2 : os[k]? with
            | none => simp only [q2] at h; exact h.elim
            | some o =>
              simp only [q2] at h
              obtain ⟨a, vs, hv, ha, hl, _, pick⟩ := s.items q
              have hk := ixN_lt q1
              have hv2 : vs[k]? = some vs[k] := List.getElem?_eq_getElem (by omega)
              refine ⟨.ref a, hv, a, vs, z, vs[k], rfl, rfl, SqL.of ha, ?_, h _ H Hf (Same.refl _) (pick k _ o hv2 q2)⟩
              have e1 : ixN vs.length z = some k := by rw [hl]; exact q1
              unfold atI
              rw [e1]
              exact hv2
        | sh _ => simp only [q] at h; exact h.elim
        | dk _ => simp only [q] at h; exact h.elim
        | dt _ => simp only [q] at h; exact h.elim
        | tup _ => simp only [q] at h; exact h.elim
theorem ev_tkM (G : Good X W m) (hg1 : Gl X "min") (hm1 : X.mg "min" = none) (hg2 : Gl X "len") (hm2 : X.mg "len" = none) (hx : PE X e (tVar i))
    (hst : starEach [e] X.env = (false, eval e X.env) :: starEach [] X.env := by rfl)
    (he : backTo pos (starEach [e] X.env) = (false, eval e X.env) :: backTo pos (starEach [] X.env) := by rfl) (hpl : (backTo pos (starEach [e] X.env)).any (·.1) = false := by rfl) :
    EvE X W (.Call (.Name "min" p) [e] [⟨some "key", .Name "len" p2, kp⟩] pos) (eTkM i) :=
  pe_w (pe_minLen G.calm hg1 hm1 hg2 hm2 (pa_cons hx pa_nil hst) he hpl) fun σ H Q ⟨Hf, T, ρ, F, s, h⟩ => by
    unfold eTkM at h
    cases q : ρ.sl[i]? with
    | none => simp only [q] at h; exact h.elim
    | some y =>
      cases y with
      | none => simp only [q] at h; exact h.elim
      | some o =>
        cases o with
        | lst os =>
          simp only [q] at h
          cases q1 : lensO os with
          | none => simp only [q1] at h; exact h.elim
          | some ls =>
            simp only [q1] at h
            by_cases c : 0 < os.length
            case neg => rw [if_neg c] at h; exact h.elim
            rw [if_pos c] at h
            cases q2 : os[minAt ls]? with
            | none => simp only [q2] at h; exact h.elim
            | some o =>
              simp only [q2] at h
              obtain ⟨a, vs, hv, ha, hl, hls, pick⟩ := s.items q
              refine ⟨.ref a, hv, a, vs, ls, rfl, SqL.of ha, by omega, by rw [lensO_len q1, hl], fun j v e => ?_, fun v e => h v H Hf (Same.refl _) (pick _ v o e q2)⟩
              obtain ⟨p, ys, e1, e2, e3⟩ := hls ls q1 j v e
              exact ⟨p, ys, e1, SqL.of e2, e3⟩
        | sh _ => simp only [q] at h; exact h.elim
        | dk _ => simp only [q] at h; exact h.elim
        | dt _ => simp only [q] at h; exact h.elim
        | tup _ => simp only [q] at h; exact h.elim
end
def tkIR (o : OV) (z : Int) : R OV := match o with
  | .lst os => (match ixN os.length z with
    | some k => match os[k]? with
      | some o => .ok o
      | none => .stk
    | none => .stk)
  | _ => .stk
def tkMR (o : OV) : R OV := match o with
  | .lst os => (match lensO os with
    | some ls => if 0 < os.length then (match os[minAt ls]? with
      | some o => .ok o
      | none => .stk) else .stk
    | none => .stk)
  | _ => .stk
section
variable {μ : List SO} {p : Pat} {i : Nat} {o : OV} {z : Int}
theorem j_tkI (h1 : p[i]? = some (.ex o)) : jE μ (eTkI i z) p (tkIR o z) (p.set i .un) := fun ρ m => by
  obtain ⟨x, e1, rfl⟩ := m.at h1
  unfold tkIR eTkI
  rw [e1]
  cases o with
  | lst os =>
    simp only
    cases ixN os.length z with
    | none => trivial
    | some k =>
      simp only
      cases os[k]? with
      | none => trivial
      | some o => exact ⟨ρ.set i none, rfl, m.set i rfl⟩
  | _ => trivial
theorem j_tkM (h1 : p[i]? = some (.ex o)) : jE μ (eTkM i) p (tkMR o) (p.set i .un) := fun ρ m => by
  obtain ⟨x, e1, rfl⟩ := m.at h1
  unfold tkMR eTkM
  rw [e1]
  cases o with
  | lst os =>
    simp only
    cases lensO os with
    | none => trivial
    | some ls =>
      simp only
      by_cases c : 0 < os.length
      · rw [if_pos c, if_pos c]
        cases os[minAt ls]? with
        | none => trivial
        | some o => exact ⟨ρ.set i none, rfl, m.set i rfl⟩
      · rw [if_neg c]; trivial
  | _ => trivial
end
end Ev
namespace Com
open PySem PySem.Spec L2 Ev
open PyProof.Rows hiding St
def b_cells_of : Rho → Out :=
  (sCons (sAsg (hTup 4 (hCons (hName 1) (hCons (hName 2) (hCons (hName 3) (hCons (hName 4) hNil))))) (eV 0))
    (sCons (sIf (eTest (eBin (gEq false) (eV 3) (cC (.str "along")))) (sCons (sRet (eLc [5] (iRange1 (eV 4)) (hName 5) tYesR (eTup (lCons (eV 1) (lCons (eBin gAdd (eV 2) (eV 5)) lNil)))))
    sNil) sNil)
    (sCons (sRet (eLc [5] (iRange1 (eV 4)) (hName 5) tYesR (eTup (lCons (eBin gAdd (eV 1) (eV 5)) (lCons (eV 2) lNil)))))
    sNil)))
def m_cells_of : List PyData → List SO → Rv := runP 6 b_cells_of
def q_cells_of_0 (a1 : PyData) : O Unit :=
  O.bind (O.of (R.bind (R.ok (.sh a1)) fun o3 => unT 4 (fz o3))) fun t2 => O.bind (O.bind (O.of (R.bind (R.bind (R.ok (.sh (nd t2 2))) fun e4 => R.bind (R.ok (.sh (.str "along"))) fun e5 => ofOR (gEq false e4 e5)) toBR)) fun b31 => if b31 = true then O.bind (O.of (R.bind (R.bind (R.ok (.sh (nd t2 3))) rng1R) fun z28 => R.bind (lcR (fun x19 => R.bind (R.bind (R.bind (R.ok (.sh (nd t2 0))) fun e24 => R.bind (R.bind (R.bind (R.ok (.sh (nd t2 1))) fun e20 => R.bind (R.ok (.sh x19)) fun e21 => ofOR (gAdd e20 e21)) fun e22 => R.bind (R.ok []) fun l23 => .ok (e22 :: l23)) fun l25 => .ok (e24 :: l25)) fun l26 => szR l26.length (.sh (.tuple (l26.map fz)))) fun o27 => .ok (some o27)) z28) fun l29 => szR l29.length (.lst l29))) fun o30 => .ret o30 else .next ()) fun s18 => O.bind (O.of (R.bind (R.bind (R.ok (.sh (nd t2 3))) rng1R) fun z41 => R.bind (lcR (fun x32 => R.bind (R.bind (R.bind (R.bind (R.ok (.sh (nd t2 0))) fun e33 => R.bind (R.ok (.sh x32)) fun e34 => ofOR (gAdd e33 e34)) fun e37 => R.bind (R.bind (R.ok (.sh (nd t2 1))) fun e35 => R.bind (R.ok []) fun l36 => .ok (e35 :: l36)) fun l38 => .ok (e37 :: l38)) fun l39 => szR l39.length (.sh (.tuple (l39.map fz)))) fun o40 => .ok (some o40)) z41) fun l42 => szR l42.length (.lst l42))) fun o43 => .ret o43
theorem okq_cells_of_0 {μ : List SO} (a1 : PyData) : jS μ b_cells_of [.ex (.sh a1), .un, .un, .un, .un, .un] (q_cells_of_0 a1) (fun _ : Unit => [.no, .no, .no, .no, .no, .no]) := by
  unfold q_cells_of_0 b_cells_of
  exact (js_seq (st1 := fun (t2 : List PyData) => [.ex (.sh a1), .ex (.sh (nd t2 0)), .ex (.sh (nd t2 1)), .ex (.sh (nd t2 2)), .ex (.sh (nd t2 3)), .un]) (js_asg (pt := fun _ _ => []) (pt' := fun t2 => [.ex (.sh a1), .ex (.sh (nd t2 0)), .ex (.sh (nd t2 1)), .ex (.sh (nd t2 2)), .ex (.sh (nd t2 3)), .un]) (j_v rfl) fun _ => (jt_tup fun t2 => (jts_cons (by decide) (jts_cons (by decide) (jts_cons (by decide) (jts_cons (by decide) jts_nil)))))) fun t2 => (js_seq (st1 := fun (s18 : Unit) => [.no, .ex (.sh (nd t2 0)), .ex (.sh (nd t2 1)), .no, .ex (.sh (nd t2 3)), .no]) (js_if (j_test (j_bin (j_v rfl) j_c)) (js_retc (j_lc (pc := [.ex (.sh a1), .ex (.sh (nd t2 0)), .ex (.sh (nd t2 1)), .ex (.sh (nd t2 2)), .ex (.sh (nd t2 3)), .no]) (j_irange1 (j_v rfl)) .rf fun x19 => (j_turn1N (j_tup (j_lcons (j_v rfl) (j_lcons (j_bin (j_v rfl) (j_v rfl)) j_lnil))) .rf))) (js_nil (by exact (.no (.eq (.eq (.no (.eq (.no .nil))))))))) fun s18 => (js_retc (j_lc (pc := [.no, .ex (.sh (nd t2 0)), .ex (.sh (nd t2 1)), .no, .ex (.sh (nd t2 3)), .no]) (j_irange1 (j_v rfl)) .rf fun x32 => (j_turn1N (j_tup (j_lcons (j_bin (j_v rfl) (j_v rfl)) (j_lcons (j_v rfl) j_lnil))) .rf)))))
def q_cells_of : List PyData → R OV
  | [a1] => O.fin (q_cells_of_0 a1)
  | _ => .stk
theorem okq_cells_of : jP m_cells_of q_cells_of := fun ds μ => match ds with
  | [a1] => j_def (qq := q_cells_of_0 a1) (okq_cells_of_0 a1)
  | [] => trivial
  | _ :: _ :: _ => trivial
def q_is_on_0 (a1 : PyData) (a2 : PyData) : O Unit :=
  O.bind (O.of (R.bind (R.bind (R.ok (.sh (.int 0))) fun e7 => R.bind (R.bind (R.ok (.sh a2)) fun e3 => R.bind (R.ok (.sh (.int 0))) fun e4 => ofOR (gSub e3 e4)) fun e8 => chR (gLe e7 e8) (R.bind (R.bind (R.ok (.sh a1)) fun e5 => R.bind (R.ok (.sh (.int 0))) fun e6 => ofOR (gSub e5 e6)) fun e9 => ofOR (gLt e8 e9))) fun e17 => andR e17 (R.bind (R.ok (.sh (.int 0))) fun e14 => R.bind (R.bind (R.ok (.sh a2)) fun e10 => R.bind (R.ok (.sh (.int 1))) fun e11 => ofOR (gSub e10 e11)) fun e15 => chR (gLe e14 e15) (R.bind (R.bind (R.ok (.sh a1)) fun e12 => R.bind (R.ok (.sh (.int 1))) fun e13 => ofOR (gSub e12 e13)) fun e16 => ofOR (gLt e15 e16))))) fun o18 => .ret o18
def q_is_on : List PyData → R OV
  | [a1, a2] => O.fin (q_is_on_0 a1 a2)
  | _ => .stk
def b__law_stir : Rho → Out :=
  (sCons (sSet 2 (eMul (eBin gAdd (eBin gAdd (eMod (eV 0) (ePow (cC (.int 10)) (cC (.int 60)))) (eMul (cC (.int 7919)) (eV 1))) (cC (.int 1))) (cC (.int 27182818284590452353602874713527))))
    (sCons (sSet 2 (eMod (eV 2) (cC (.int 170141183460469231731687303715884105727))))
    (sCons (sRet (eFdiv (eMod (ePow (eBin gAdd (ePow (eV 2) (cC (.int 5))) (eMul (cC (.int 48271)) (eV 1))) (cC (.int 3))) (cC (.int 162259276829213363391578010288127))) (cC (.int 7))))
    sNil)))
def m__law_stir : List PyData → List SO → Rv := runP 3 b__law_stir
def q__law_stir_0 (a1 : PyData) (a2 : PyData) : O Unit :=
  O.bind (O.of (R.bind (R.bind (R.bind (R.bind (R.ok (.sh a1)) fun e5 => R.bind (R.bind (R.ok (.sh (.int 10))) fun e3 => R.bind (R.ok (.sh (.int 60))) fun e4 => ofOR (gPowI e3 e4)) fun e6 => ofOR (gModI e5 e6)) fun e9 => R.bind (R.bind (R.ok (.sh (.int 7919))) fun e7 => R.bind (R.ok (.sh a2)) fun e8 => ofOR (gMulI e7 e8)) fun e10 => ofOR (gAdd e9 e10)) fun e11 => R.bind (R.ok (.sh (.int 1))) fun e12 => ofOR (gAdd e11 e12)) fun e13 => R.bind (R.ok (.sh (.int 27182818284590452353602874713527))) fun e14 => ofOR (gMulI e13 e14))) fun (v15 : OV) => O.bind (O.of (R.bind (R.ok (.sh (fz v15))) fun e16 => R.bind (R.ok (.sh (.int 170141183460469231731687303715884105727))) fun e17 => ofOR (gModI e16 e17))) fun (v18 : OV) => O.bind (O.of (R.bind (R.bind (R.bind (R.bind (R.bind (R.ok (.sh (fz v18))) fun e19 => R.bind (R.ok (.sh (.int 5))) fun e20 => ofOR (gPowI e19 e20)) fun e23 => R.bind (R.bind (R.ok (.sh (.int 48271))) fun e21 => R.bind (R.ok (.sh a2)) fun e22 => ofOR (gMulI e21 e22)) fun e24 => ofOR (gAdd e23 e24)) fun e25 => R.bind (R.ok (.sh (.int 3))) fun e26 => ofOR (gPowI e25 e26)) fun e27 => R.bind (R.ok (.sh (.int 162259276829213363391578010288127))) fun e28 => ofOR (gModI e27 e28)) fun e29 => R.bind (R.ok (.sh (.int 7))) fun e30 => ofOR (gDivI e29 e30))) fun o31 => .ret o31
theorem okq__law_stir_0 {μ : List SO} (a1 : PyData) (a2 : PyData) : jS μ b__law_stir [.ex (.sh a1), .ex (.sh a2), .un] (q__law_stir_0 a1 a2) (fun _ : Unit => [.no, .no, .no]) := by
  unfold q__law_stir_0 b__law_stir
  exact (js_seq (st1 := fun (v15 : OV) => [.ex (.sh a1), .ex (.sh a2), .ex v15]) (js_set (j_bin (j_bin (j_bin (j_bin (j_v rfl) (j_bin j_c j_c)) (j_bin j_c (j_v rfl))) j_c) j_c)) fun v15 => (js_seq (st1 := fun (v18 : OV) => [.ex (.sh a1), .ex (.sh a2), .ex v18]) (js_set (j_bin (j_vx rfl) j_c)) fun v18 => (js_retc (j_bin (j_bin (j_bin (j_bin (j_bin (j_vx rfl) j_c) (j_bin j_c (j_v rfl))) j_c) j_c) j_c))))
def q__law_stir : List PyData → R OV
  | [a1, a2] => O.fin (q__law_stir_0 a1 a2)
  | _ => .stk
theorem okq__law_stir : jP m__law_stir q__law_stir := fun ds μ => match ds with
  | [a1, a2] => j_def (qq := q__law_stir_0 a1 a2) (okq__law_stir_0 a1 a2)
  | [] => trivial
  | [_] => trivial
  | _ :: _ :: _ :: _ => trivial
def b__law_drawn_1 : Rho → Out :=
  (sCons (sIf (bOr (eTest (eBin (gLt) (eV 0) (ePow (cC (.int 10)) (cC (.int 18))))) (eTest (eBin (gEq false) (eV 3) (cC (.int 0))))) (sCons (sExpr (eMut 2 "list" mApp (lCons (eMod (eCall m__law_stir (lCons (eV 0) (lCons (eV 4) lNil))) (eBin gSub (eV 1) (eV 4))) lNil)))
    sNil) (sCons (sExpr (eMut 2 "list" mApp (lCons (eMod (eV 3) (eBin gSub (eV 1) (eV 4))) lNil)))
    (sCons (sSet 3 (eFdiv (eV 3) (eBin gSub (eV 1) (eV 4))))
    sNil)))
    sNil)
def b__law_drawn : Rho → Out :=
  (sCons (sSet 2 (eLst lNil))
    (sCons (sSet 3 (eV 0))
    (sCons (sFor [4] (iRange1 (eFn (g1 dLen) (lCons (eV 1) lNil))) (hName 4) b__law_drawn_1)
    (sCons (sRet (eM 2))
    sNil))))
def m__law_drawn : List PyData → List SO → Rv := runP 5 b__law_drawn
def q__law_drawn_1 (a1 : PyData) (a2 : PyData) (x77 : PyData) (s76 : OV × PyData) : O (OV × PyData) :=
  O.bind (O.bind (O.of (R.bind (R.bind (R.bind (R.ok (.sh a1)) fun e145 => R.bind (R.bind (R.ok (.sh (.int 10))) fun e143 => R.bind (R.ok (.sh (.int 18))) fun e144 => ofOR (gPowI e143 e144)) fun e146 => ofOR (gLt e145 e146)) toBR) fun b149 => if b149 = true then .ok true else (R.bind (R.bind (R.ok (.sh s76.2)) fun e147 => R.bind (R.ok (.sh (.int 0))) fun e148 => ofOR (gEq false e147 e148)) toBR))) fun b207 => if b207 = true then O.bind (O.of (R.bind (ownR "list" s76.1) fun _ => R.bind (R.bind (R.bind (R.bind (R.bind (R.ok (.sh a1)) fun e181 => R.bind (R.bind (R.ok (.sh x77)) fun e179 => R.bind (R.ok []) fun l180 => .ok (e179 :: l180)) fun l182 => .ok (e181 :: l182)) fun l183 => q__law_stir (l183.map fz)) fun e186 => R.bind (R.bind (R.ok (.sh a2)) fun e184 => R.bind (R.ok (.sh x77)) fun e185 => ofOR (gSub e184 e185)) fun e187 => ofOR (gModI e186 e187)) fun e188 => R.bind (R.ok []) fun l189 => .ok (e188 :: l189)) fun l191 => R.bind (mutR mApp s76.1 l191) fun r192 => .ok r192.1)) fun (v190 : OV) => .next (v190, s76.2) else O.bind (O.of (R.bind (ownR "list" s76.1) fun _ => R.bind (R.bind (R.bind (R.ok (.sh s76.2)) fun e195 => R.bind (R.bind (R.ok (.sh a2)) fun e193 => R.bind (R.ok (.sh x77)) fun e194 => ofOR (gSub e193 e194)) fun e196 => ofOR (gModI e195 e196)) fun e197 => R.bind (R.ok []) fun l198 => .ok (e197 :: l198)) fun l200 => R.bind (mutR mApp s76.1 l200) fun r201 => .ok r201.1)) fun (v199 : OV) => O.bind (O.of (R.bind (R.ok (.sh s76.2)) fun e204 => R.bind (R.bind (R.ok (.sh a2)) fun e202 => R.bind (R.ok (.sh x77)) fun e203 => ofOR (gSub e202 e203)) fun e205 => ofOR (gDivI e204 e205))) fun (v206 : OV) => .next (v199, (fz v206))) fun s178 => .next (s178.1, s178.2)
theorem okq__law_drawn_1 {μ : List SO} (a1 : PyData) (a2 : PyData) (x77 : PyData) (s76 : OV × PyData) : jS μ b__law_drawn_1 [.ex (.sh a1), .ex (.sh a2), .ex s76.1, .fr s76.2, .ex (.sh x77)] (q__law_drawn_1 a1 a2 x77 s76) (fun (s76 : OV × PyData) => [.ex (.sh a1), .ex (.sh a2), .ex s76.1, .fr s76.2, .no]) := by
  unfold q__law_drawn_1 b__law_drawn_1
  exact (js_seq (st1 := fun (s178 : OV × PyData) => [.ex (.sh a1), .ex (.sh a2), .ex s178.1, .fr s178.2, .no]) (js_if (j_bor (j_test (j_bin (j_v rfl) (j_bin j_c j_c))) (j_test (j_bin (j_vf rfl) j_c)) .rf) (js_seq (st1 := fun (v190 : OV) => [.ex (.sh a1), .ex (.sh a2), .ex v190, .fr s76.2, .ex (.sh x77)]) (js_mut rfl (j_lcons (j_bin (j_call okq__law_stir (j_lcons (j_v rfl) (j_lcons (j_v rfl) j_lnil))) (j_bin (j_v rfl) (j_v rfl))) j_lnil) rfl) fun v190 => (js_nil (by exact (.eq (.eq (.eq (.eq (.no .nil)))))))) (js_seq (st1 := fun (v199 : OV) => [.ex (.sh a1), .ex (.sh a2), .ex v199, .fr s76.2, .ex (.sh x77)]) (js_mut rfl (j_lcons (j_bin (j_vf rfl) (j_bin (j_v rfl) (j_v rfl))) j_lnil) rfl) fun v199 => (js_seq (st1 := fun (v206 : OV) => [.ex (.sh a1), .ex (.sh a2), .ex v199, .ex v206, .ex (.sh x77)]) (js_set (j_bin (j_vf rfl) (j_bin (j_v rfl) (j_v rfl)))) fun v206 => (js_nil (by exact (.eq (.eq (.eq (.fr (.no .nil)))))))))) fun s178 => (js_nil .rf))
def q__law_drawn_0 (a1 : PyData) (a2 : PyData) : O Unit :=
  O.bind (O.of (R.bind (R.ok []) fun l3 => szR l3.length (.lst l3))) fun (v4 : OV) => O.bind (O.of (R.ok (.sh a1))) fun (v5 : OV) => O.bind (O.bind (O.of (R.bind (R.bind (R.bind (R.ok (.sh a2)) fun e6 => R.bind (R.ok []) fun l7 => .ok (e6 :: l7)) fun l8 => ofOR ((g1 dLen) l8)) rng1R)) fun z208 => forO z208 (fun x77 s76 => q__law_drawn_1 a1 a2 x77 s76) (v4, (fz v5))) fun s209 => O.bind (O.of (R.ok s209.1)) fun o210 => .ret o210
theorem okq__law_drawn_0 {μ : List SO} (a1 : PyData) (a2 : PyData) : jS μ b__law_drawn [.ex (.sh a1), .ex (.sh a2), .un, .un, .un] (q__law_drawn_0 a1 a2) (fun _ : Unit => [.no, .no, .no, .no, .no]) := by
  unfold q__law_drawn_0 b__law_drawn
  exact (js_seq (st1 := fun (v4 : OV) => [.ex (.sh a1), .ex (.sh a2), .ex v4, .un, .un]) (js_set (j_lst j_lnil)) fun v4 => (js_seq (st1 := fun (v5 : OV) => [.ex (.sh a1), .ex (.sh a2), .ex v4, .ex v5, .un]) (js_set (j_v rfl)) fun v5 => (js_seq (st1 := fun (s209 : OV × PyData) => [.ex (.sh a1), .ex (.sh a2), .ex s209.1, .fr s209.2, .no]) (js_forN (st := fun (s76 : OV × PyData) => [.ex (.sh a1), .ex (.sh a2), .ex s76.1, .fr s76.2, .no]) (j_irange1 (j_fn (j_lcons (j_v rfl) j_lnil))) (by exact (.eq (.eq (.eq (.fr (.eq .nil)))))) (fun x77 s76 => okq__law_drawn_1 a1 a2 x77 s76) (fun _ => rfl)) fun s209 => (js_retc (j_m rfl)))))
def q__law_drawn : List PyData → R OV
  | [a1, a2] => O.fin (q__law_drawn_0 a1 a2)
  | _ => .stk
theorem okq__law_drawn : jP m__law_drawn q__law_drawn := fun ds μ => match ds with
  | [a1, a2] => j_def (qq := q__law_drawn_0 a1 a2) (okq__law_drawn_0 a1 a2)
  | [] => trivial
  | [_] => trivial
  | _ :: _ :: _ :: _ => trivial
def b__law_cells_1 : Rho → Out :=
  (sCons (sExpr (eMut 5 "list" mApp (lCons (eTup (lCons (eBin gAdd (eV 1) (eMul (eV 6) (eFn (g1 dInt) (lCons (eBin (gEq false) (eV 3) (cC (.str "down"))) lNil)))) (lCons (eBin gAdd (eV 2) (eMul (eV 6) (eFn (g1 dInt) (lCons (eBin (gEq false) (eV 3) (cC (.str "along"))) lNil)))) lNil))) lNil)))
    sNil)
def b__law_cells : Rho → Out :=
  (sCons (sAsg (hTup 4 (hCons (hName 1) (hCons (hName 2) (hCons (hName 3) (hCons (hName 4) hNil))))) (eV 0))
    (sCons (sSet 5 (eLst lNil))
    (sCons (sFor [6] (iRange1 (eV 4)) (hName 6) b__law_cells_1)
    (sCons (sRet (eM 5))
    sNil))))
def m__law_cells : List PyData → List SO → Rv := runP 7 b__law_cells
def q__law_cells_1 (t2 : List PyData) (x37 : PyData) (s36 : OV) : O (OV) :=
  O.bind (O.of (R.bind (ownR "list" s36) fun _ => R.bind (R.bind (R.bind (R.bind (R.bind (R.ok (.sh (nd t2 0))) fun e73 => R.bind (R.bind (R.ok (.sh x37)) fun e71 => R.bind (R.bind (R.bind (R.bind (R.ok (.sh (nd t2 2))) fun e66 => R.bind (R.ok (.sh (.str "down"))) fun e67 => ofOR (gEq false e66 e67)) fun e68 => R.bind (R.ok []) fun l69 => .ok (e68 :: l69)) fun l70 => ofOR ((g1 dInt) l70)) fun e72 => ofOR (gMulI e71 e72)) fun e74 => ofOR (gAdd e73 e74)) fun e86 => R.bind (R.bind (R.bind (R.ok (.sh (nd t2 1))) fun e82 => R.bind (R.bind (R.ok (.sh x37)) fun e80 => R.bind (R.bind (R.bind (R.bind (R.ok (.sh (nd t2 2))) fun e75 => R.bind (R.ok (.sh (.str "along"))) fun e76 => ofOR (gEq false e75 e76)) fun e77 => R.bind (R.ok []) fun l78 => .ok (e77 :: l78)) fun l79 => ofOR ((g1 dInt) l79)) fun e81 => ofOR (gMulI e80 e81)) fun e83 => ofOR (gAdd e82 e83)) fun e84 => R.bind (R.ok []) fun l85 => .ok (e84 :: l85)) fun l87 => .ok (e86 :: l87)) fun l88 => szR l88.length (.sh (.tuple (l88.map fz)))) fun e89 => R.bind (R.ok []) fun l90 => .ok (e89 :: l90)) fun l92 => R.bind (mutR mApp s36 l92) fun r93 => .ok r93.1)) fun (v91 : OV) => .next v91
theorem okq__law_cells_1 {μ : List SO} (t2 : List PyData) (x37 : PyData) (s36 : OV) : jS μ b__law_cells_1 [.no, .ex (.sh (nd t2 0)), .ex (.sh (nd t2 1)), .ex (.sh (nd t2 2)), .no, .ex s36, .ex (.sh x37)] (q__law_cells_1 t2 x37 s36) (fun (s36 : OV) => [.no, .ex (.sh (nd t2 0)), .ex (.sh (nd t2 1)), .ex (.sh (nd t2 2)), .no, .ex s36, .no]) := by
  unfold q__law_cells_1 b__law_cells_1
  exact (js_seq (st1 := fun (v91 : OV) => [.no, .ex (.sh (nd t2 0)), .ex (.sh (nd t2 1)), .ex (.sh (nd t2 2)), .no, .ex v91, .ex (.sh x37)]) (js_mut rfl (j_lcons (j_tup (j_lcons (j_bin (j_v rfl) (j_bin (j_v rfl) (j_fn (j_lcons (j_bin (j_v rfl) j_c) j_lnil)))) (j_lcons (j_bin (j_v rfl) (j_bin (j_v rfl) (j_fn (j_lcons (j_bin (j_v rfl) j_c) j_lnil)))) j_lnil))) j_lnil) rfl) fun v91 => (js_nil (by exact (.eq (.eq (.eq (.eq (.eq (.eq (.no .nil))))))))))
def q__law_cells_0 (a1 : PyData) : O Unit :=
  O.bind (O.of (R.bind (R.ok (.sh a1)) fun o3 => unT 4 (fz o3))) fun t2 => O.bind (O.of (R.bind (R.ok []) fun l4 => szR l4.length (.lst l4))) fun (v5 : OV) => O.bind (O.bind (O.of (R.bind (R.ok (.sh (nd t2 3))) rng1R)) fun z94 => forO z94 (fun x37 s36 => q__law_cells_1 t2 x37 s36) v5) fun (s95 : OV) => O.bind (O.of (R.ok s95)) fun o96 => .ret o96
theorem okq__law_cells_0 {μ : List SO} (a1 : PyData) : jS μ b__law_cells [.ex (.sh a1), .un, .un, .un, .un, .un, .un] (q__law_cells_0 a1) (fun _ : Unit => [.no, .no, .no, .no, .no, .no, .no]) := by
  unfold q__law_cells_0 b__law_cells
  exact (js_seq (st1 := fun (t2 : List PyData) => [.ex (.sh a1), .ex (.sh (nd t2 0)), .ex (.sh (nd t2 1)), .ex (.sh (nd t2 2)), .ex (.sh (nd t2 3)), .un, .un]) (js_asg (pt := fun _ _ => []) (pt' := fun t2 => [.ex (.sh a1), .ex (.sh (nd t2 0)), .ex (.sh (nd t2 1)), .ex (.sh (nd t2 2)), .ex (.sh (nd t2 3)), .un, .un]) (j_v rfl) fun _ => (jt_tup fun t2 => (jts_cons (by decide) (jts_cons (by decide) (jts_cons (by decide) (jts_cons (by decide) jts_nil)))))) fun t2 => (js_seq (st1 := fun (v5 : OV) => [.ex (.sh a1), .ex (.sh (nd t2 0)), .ex (.sh (nd t2 1)), .ex (.sh (nd t2 2)), .ex (.sh (nd t2 3)), .ex v5, .un]) (js_set (j_lst j_lnil)) fun v5 => (js_seq (st1 := fun (s95 : OV) => [.no, .ex (.sh (nd t2 0)), .ex (.sh (nd t2 1)), .ex (.sh (nd t2 2)), .no, .ex s95, .no]) (js_forN (st := fun (s36 : OV) => [.no, .ex (.sh (nd t2 0)), .ex (.sh (nd t2 1)), .ex (.sh (nd t2 2)), .no, .ex s36, .no]) (j_irange1 (j_v rfl)) (by exact (.no (.eq (.eq (.eq (.no (.eq (.eq .nil)))))))) (fun x37 s36 => okq__law_cells_1 t2 x37 s36) (fun _ => rfl)) fun s95 => (js_retc (j_m rfl)))))
def q__law_cells : List PyData → R OV
  | [a1] => O.fin (q__law_cells_0 a1)
  | _ => .stk
theorem okq__law_cells : jP m__law_cells q__law_cells := fun ds μ => match ds with
  | [a1] => j_def (qq := q__law_cells_0 a1) (okq__law_cells_0 a1)
  | [] => trivial
  | _ :: _ :: _ => trivial
def q_bit_of_0 (a1 : PyData) : O Unit :=
  O.bind (O.of (R.bind (R.ok (.sh (.int 1))) fun e10 => R.bind (R.bind (R.bind (R.ok (.sh (.int 8))) fun e4 => R.bind (R.bind (R.ok (.sh a1)) fun e2 => R.bind (R.ok (.sh (.int 0))) fun e3 => ofOR (gSub e2 e3)) fun e5 => ofOR (gMulI e4 e5)) fun e8 => R.bind (R.bind (R.ok (.sh a1)) fun e6 => R.bind (R.ok (.sh (.int 1))) fun e7 => ofOR (gSub e6 e7)) fun e9 => ofOR (gAdd e8 e9)) fun e11 => ofOR (gShlI e10 e11))) fun o12 => .ret o12
def q_bit_of : List PyData → R OV
  | [a1] => O.fin (q_bit_of_0 a1)
  | _ => .stk
def q_bits_of_0 (a1 : PyData) : O Unit :=
  O.bind (O.of (R.bind (R.bind (R.bind (R.bind (R.bind (R.bind (R.ok (.sh a1)) fun e2 => R.bind (R.ok []) fun l3 => .ok (e2 :: l3)) fun l4 => q_cells_of (l4.map fz)) itR) fun z10 => R.bind (lcR (fun x5 => R.bind (R.bind (R.bind (R.ok (.sh x5)) fun e6 => R.bind (R.ok []) fun l7 => .ok (e6 :: l7)) fun l8 => q_bit_of (l8.map fz)) fun o9 => .ok (some o9)) z10) fun l11 => szR l11.length (.lst l11)) fun e12 => R.bind (R.ok []) fun l13 => .ok (e12 :: l13)) fun l14 => ofOR ((g1 dSum) l14))) fun o15 => .ret o15
def q_bits_of : List PyData → R OV
  | [a1] => O.fin (q_bits_of_0 a1)
  | _ => .stk
def q_answer_of_1 (a2 : PyData) (v7 : OV) (x35 : PyData) (s34 : Unit) : O (Unit) :=
  O.bind (O.bind (O.of (R.bind (R.bind (R.bind (R.ok (.sh x35)) fun e60 => R.bind (R.ok (.sh (fz v7))) fun e61 => ofOR (gAndI e60 e61)) fun e62 => R.bind (R.ok (.sh (.int 0))) fun e63 => ofOR (gEq true e62 e63)) toBR)) fun b83 => if b83 = true then O.bind (O.of (R.bind (R.bind (R.bind (R.bind (R.ok (.sh x35)) fun e77 => R.bind (R.bind (R.bind (R.ok (.sh a2)) fun e74 => R.bind (R.ok (.sh (fz v7))) fun e75 => ofOR (gOrI e74 e75)) fun e76 => ofOR ((gI fun i => .int (Builtin.bitNot i)) e76)) fun e78 => ofOR (gAndI e77 e78)) fun e79 => R.bind (R.ok (.sh (.int 0))) fun e80 => ofOR (gEq false e79 e80)) toBR) fun b81 => if b81 = true then (R.ok (.sh (.str "sunk"))) else (R.ok (.sh (.str "hit"))))) fun o82 => .ret o82 else .next ()) fun s73 => .next ()
def q_answer_of_0 (a1 : PyData) (a2 : PyData) (a3 : PyData) : O Unit :=
  O.bind (O.of (R.bind (R.bind (R.ok (.sh a3)) fun e4 => R.bind (R.ok []) fun l5 => .ok (e4 :: l5)) fun l6 => q_bit_of (l6.map fz))) fun (v7 : OV) => O.bind (O.bind (O.of (R.bind (R.ok (.sh a1)) itR)) fun z84 => forO z84 (fun x35 s34 => q_answer_of_1 a2 v7 x35 s34) ()) fun s85 => O.bind (O.of (R.ok (.sh (.str "water")))) fun o86 => .ret o86
def q_answer_of : List PyData → R OV
  | [a1, a2, a3] => O.fin (q_answer_of_0 a1 a2 a3)
  | _ => .stk
def q__law_answers_1 (v21 : OV) (x180 : PyData) (x387 : PyData) (s386 : OV × OV) : O (OV × OV) :=
  O.bind (O.bind (O.of (R.bind (R.bind (R.ok (.sh x180)) fun e436 => R.bind (R.bind (R.ok (.sh (fz v21))) fun e434 => R.bind (R.ok (.sh x387)) fun e435 => ofOR (gSub e434 e435)) fun e437 => ofOR (gIn false e436 e437)) toBR)) fun b479 => if b479 = true then O.bind (O.of (R.bind (R.bind (R.bind (R.ok (.sh x387)) fun e459 => ofPR (gSubO s386.1 (fz e459))) fun e460 => R.bind (R.ok (.sh (.int 1))) fun e461 => ofOR (gSubI e460 e461)) fun o463 => R.bind (R.ok (.sh x387)) fun k464 => setR s386.1 k464 o463)) fun (v462 : OV) => O.bind (O.of (R.bind (R.bind (R.bind (R.ok (.sh (.str "hit"))) fun e467 => R.bind (R.bind (R.ok (.sh (.str "sunk"))) fun e465 => R.bind (R.ok []) fun l466 => .ok (e465 :: l466)) fun l468 => .ok (e467 :: l468)) fun l469 => szR l469.length (.lst l469)) fun e476 => R.bind (R.bind (R.bind (R.bind (R.bind (R.ok (.sh x387)) fun e470 => ofPR (gSubO v462 (fz e470))) fun e471 => R.bind (R.ok (.sh (.int 0))) fun e472 => ofOR (gEq false e471 e472)) fun e473 => R.bind (R.ok []) fun l474 => .ok (e473 :: l474)) fun l475 => ofOR ((g1 dInt) l475)) fun e477 => ofOR (gSub e476 e477))) fun (v478 : OV) => .next (v462, v478) else .next (s386.1, s386.2)) fun s458 => .next (s458.1, s458.2)
def q__law_answers_2 (a1 : PyData) (v21 : OV) (x180 : PyData) (s179 : OV × OV) : O (OV × OV) :=
  O.bind (O.of (R.ok (.sh (.str "water")))) fun (v334 : OV) => O.bind (O.bind (O.of (R.bind (R.bind (R.bind (R.ok (.sh a1)) fun e335 => R.bind (R.ok []) fun l336 => .ok (e335 :: l336)) fun l337 => ofOR ((g1 dLen) l337)) rng1R)) fun z480 => forO z480 (fun x387 s386 => q__law_answers_1 v21 x180 x387 s386) (s179.1, v334)) fun s481 => O.bind (O.of (R.bind (ownR "list" s179.2) fun _ => R.bind (R.bind (R.ok (.sh (fz s481.2))) fun e482 => R.bind (R.ok []) fun l483 => .ok (e482 :: l483)) fun l485 => R.bind (mutR mApp s179.2 l485) fun r486 => .ok r486.1)) fun (v484 : OV) => .next (s481.1, v484)
def q__law_answers_0 (a1 : PyData) (a2 : PyData) : O Unit :=
  O.bind (O.of (R.bind (R.bind (R.ok (.sh a1)) itR) fun z11 => R.bind (lcR (fun x3 => R.bind (R.bind (R.bind (R.bind (R.bind (R.ok (.sh x3)) fun e4 => R.bind (R.ok []) fun l5 => .ok (e4 :: l5)) fun l6 => q__law_cells (l6.map fz)) fun e7 => R.bind (R.ok []) fun l8 => .ok (e7 :: l8)) fun l9 => ofOR ((g1 dLen) l9)) fun o10 => .ok (some o10)) z11) fun l12 => szR l12.length (.lst l12))) fun (v13 : OV) => O.bind (O.of (R.bind (R.bind (R.ok (.sh a1)) itR) fun z19 => R.bind (lcR (fun x14 => R.bind (R.bind (R.bind (R.ok (.sh x14)) fun e15 => R.bind (R.ok []) fun l16 => .ok (e15 :: l16)) fun l17 => q__law_cells (l17.map fz)) fun o18 => .ok (some o18)) z19) fun l20 => szR l20.length (.lst l20))) fun (v21 : OV) => O.bind (O.of (R.bind (R.ok []) fun l22 => szR l22.length (.lst l22))) fun (v23 : OV) => O.bind (O.bind (O.of (R.bind (R.ok (.sh a2)) itR)) fun z487 => forO z487 (fun x180 s179 => q__law_answers_2 a1 v21 x180 s179) (v13, v23)) fun s488 => O.bind (O.of (R.ok s488.2)) fun o489 => .ret o489
def q__law_answers : List PyData → R OV
  | [a1, a2] => O.fin (q__law_answers_0 a1 a2)
  | _ => .stk
def q_need_cell_0 (a1 : PyData) (a2 : PyData) (a3 : PyData) : O Unit :=
  O.bind (O.bind (O.of (R.bind (R.bind (R.bind (R.bind (R.ok (.sh a1)) fun e6 => R.bind (R.bind (R.ok (.sh a3)) fun e4 => R.bind (R.ok []) fun l5 => .ok (e4 :: l5)) fun l7 => .ok (e6 :: l7)) fun l8 => q_is_on (l8.map fz)) toBR) fun b9 => .ok (!b9))) fun b11 => if b11 = true then raiseKO "NoCell" (R.ok (.sh (.str "no cell of the sheet"))) (R.ok (.sh a3)) else .next ()) fun s10 => O.bind (O.bind (O.of (R.bind (R.bind (R.ok (.sh a3)) fun e18 => R.bind (R.bind (R.bind (R.ok (.sh a2)) itR) fun z16 => R.bind (lcR (fun x12 => R.bind (R.bind (R.ok (.sh x12)) fun e13 => R.bind (R.ok (.sh (.int 0))) fun e14 => ofOR (gSub e13 e14)) fun o15 => .ok (some o15)) z16) fun l17 => szR l17.length (.lst l17)) fun e19 => ofOR (gIn false e18 e19)) toBR)) fun b21 => if b21 = true then raiseKO "NoShot" (R.ok (.sh (.str "it was shot"))) (R.ok (.sh a3)) else .next ()) fun s20 => .next ()
def q_need_cell : List PyData → R OV
  | [a1, a2, a3] => O.fin (q_need_cell_0 a1 a2 a3)
  | _ => .stk
def q_Seeker_tell_1 (a2 : PyData) (a3 : PyData) (v28 : OV) (x65 : PyData) (s64 : OV) : O (OV) :=
  O.bind (O.bind (O.of (R.bind (R.bind (R.bind (R.bind (R.bind (R.bind (R.ok (.sh x65)) itR) fun z99 => R.bind (lcR (fun x94 => R.bind (R.bind (R.bind (R.ok (.sh x94)) fun e95 => R.bind (R.ok []) fun l96 => .ok (e95 :: l96)) fun l97 => q_bits_of (l97.map fz)) fun o98 => .ok (some o98)) z99) fun l100 => szR l100.length (.lst l100)) fun e105 => R.bind (R.bind (R.ok (.sh (fz v28))) fun e103 => R.bind (R.bind (R.ok (.sh a2)) fun e101 => R.bind (R.ok []) fun l102 => .ok (e101 :: l102)) fun l104 => .ok (e103 :: l104)) fun l106 => .ok (e105 :: l106)) fun l107 => q_answer_of (l107.map fz)) fun e108 => R.bind (R.ok (.sh a3)) fun e109 => ofOR (gEq false e108 e109)) toBR)) fun b121 => if b121 = true then O.bind (O.of (R.bind (ownR "list" s64) fun _ => R.bind (R.bind (R.ok (.sh x65)) fun e116 => R.bind (R.ok []) fun l117 => .ok (e116 :: l117)) fun l119 => R.bind (mutR mApp s64 l119) fun r120 => .ok r120.1)) fun (v118 : OV) => .next v118 else .next s64) fun (s115 : OV) => .next s115
def q_Seeker_tell_0 (m4 : List SO) (a1 : PyData) (a2 : PyData) (a3 : PyData) : OX Unit :=
  OX.bind (OX.lift m4 (O.of (R.bind (R.bind (R.bind (R.bind (R.ok (.sh a1)) fun e5 => ofPR (fldOf "Seeker" "sheet" m4 (fz e5))) fun e11 => R.bind (R.bind (R.bind (R.ok (.sh a1)) fun e6 => ofPR (fldOf "Seeker" "shots" m4 (fz e6))) fun e9 => R.bind (R.bind (R.ok (.sh a2)) fun e7 => R.bind (R.ok []) fun l8 => .ok (e7 :: l8)) fun l10 => .ok (e9 :: l10)) fun l12 => .ok (e11 :: l12)) fun l13 => q_need_cell (l13.map fz)) fun _ => .ok ()))) fun _ m14 => OX.bind (OX.lift m14 (O.of (R.bind (R.bind (R.bind (R.bind (R.bind (R.ok (.sh a1)) fun e15 => ofPR (fldOf "Seeker" "shots" m14 (fz e15))) itR) fun z23 => R.bind (lcR (fun x16 => R.bind (R.bind (R.bind (R.bind (R.ok (.sh x16)) fun e17 => R.bind (R.ok (.sh (.int 0))) fun e18 => ofOR (gSub e17 e18)) fun e19 => R.bind (R.ok []) fun l20 => .ok (e19 :: l20)) fun l21 => q_bit_of (l21.map fz)) fun o22 => .ok (some o22)) z23) fun l24 => szR l24.length (.lst l24)) fun e25 => R.bind (R.ok []) fun l26 => .ok (e25 :: l26)) fun l27 => ofOR ((g1 dSum) l27)))) fun (v28 : OV) m29 => OX.bind (OX.lift m29 (O.of (R.bind (R.ok []) fun l30 => szR l30.length (.lst l30)))) fun (v31 : OV) m32 => OX.bind (OX.lift m32 (O.bind (O.of (R.bind (R.bind (R.ok (.sh a1)) fun e33 => ofPR (fldOf "Seeker" "rows" m32 (fz e33))) itR)) fun z122 => forO z122 (fun x65 s64 => q_Seeker_tell_1 a2 a3 v28 x65 s64) v31)) fun (s123 : OV) m124 => OX.bind (OX.lift m124 (O.bind (O.of (R.bind (R.bind (R.ok (.sh (fz s123))) fun e126 => R.bind (R.bind (R.ok []) fun l125 => szR l125.length (.lst l125)) fun e127 => ofOR (gEq false e126 e127)) toBR)) fun b129 => if b129 = true then raiseO "NoHiding" (R.ok (.sh (.str "no hiding would fit"))) else .next ())) fun s128 m130 => OX.bind (OX.of (XR.bind (XR.bind (XR.of m130 (R.bind (R.ok (.sh a1)) fun e131 => ofPR (fldOf "Seeker" "past" m130 (fz e131)))) fun e132 m133 => if isLs m133 (fz e132) = true then XR.bind (XR.of m133 (R.bind (R.bind (R.ok (.sh a1)) fun e134 => ofPR (fldOf "Seeker" "rows" m133 (fz e134))) fun e135 => R.bind (R.ok []) fun l136 => .ok (e135 :: l136))) fun l137 m138 => hmX hApp (fz e132) l137 m138 else .stk) fun _ m139 => .ok () m139)) fun _ m140 => OX.bind (OX.of (XR.bind (XR.of m140 (R.ok (.sh (fz s123)))) fun e141 m142 => XR.bind (XR.of m142 (R.ok (.sh a1))) fun e143 m144 => fldX "Seeker" "rows" (fz e143) (fz e141) m144)) fun _ m145 => OX.bind (OX.of (XR.bind (XR.of m145 (R.bind (R.bind (R.ok (.sh a1)) fun e146 => ofPR (fldOf "Seeker" "shots" m145 (fz e146))) fun e155 => R.bind (R.bind (R.bind (R.bind (R.bind (R.ok (.sh a2)) fun e149 => R.bind (R.bind (R.ok (.sh a3)) fun e147 => R.bind (R.ok []) fun l148 => .ok (e147 :: l148)) fun l150 => .ok (e149 :: l150)) fun l151 => szR l151.length (.sh (.tuple (l151.map fz)))) fun e152 => R.bind (R.ok []) fun l153 => .ok (e152 :: l153)) fun l154 => szR l154.length (.lst l154)) fun e156 => ofOR (gAdd e155 e156))) fun e157 m158 => XR.bind (XR.of m158 (R.ok (.sh a1))) fun e159 m160 => fldX "Seeker" "shots" (fz e159) (fz e157) m160)) fun _ m161 => .next () m161
def q_Seeker_tell : List PyData → List SO → XR OV
  | [a1, a2, a3], m4 => OX.fin (q_Seeker_tell_0 m4 a1 a2 a3)
  | _, _ => .stk
def q_Seeker_back_0 (m2 : List SO) (a1 : PyData) : OX Unit :=
  OX.bind (OX.lift m2 (O.bind (O.of (R.bind (R.bind (R.bind (R.ok (.sh a1)) fun e3 => ofPR (fldOf "Seeker" "past" m2 (fz e3))) fun e5 => R.bind (R.bind (R.ok []) fun l4 => szR l4.length (.lst l4)) fun e6 => R.bind (derR m2 e5) fun d7 => ofPR (gEqP false d7 (fz e6))) toBR)) fun b9 => if b9 = true then raiseO "NothingLeft" (R.ok (.sh (.str "no shot is left"))) else .next ())) fun s8 m10 => OX.bind (OX.of (XR.bind (XR.bind (XR.of m10 (R.bind (R.ok (.sh a1)) fun e11 => ofPR (fldOf "Seeker" "past" m10 (fz e11)))) fun e12 m13 => if isLs m13 (fz e12) = true then XR.bind (XR.of m13 (R.ok [])) fun l14 m15 => hmX hPop (fz e12) l14 m15 else .stk) fun e16 m17 => XR.bind (XR.of m17 (R.ok (.sh a1))) fun e18 m19 => fldX "Seeker" "rows" (fz e18) (fz e16) m19)) fun _ m20 => OX.bind (OX.of (XR.bind (XR.of m20 (R.bind (R.bind (R.ok (.sh a1)) fun e21 => ofPR (fldOf "Seeker" "shots" m20 (fz e21))) fun e25 => R.bind (R.ok none) fun i26 => R.bind (R.bind (R.bind (R.ok (.sh (.int 1))) fun e22 => ofOR ((gI fun i => .int (-i)) e22)) fun e23 => R.bind (iR e23) fun i24 => .ok (some i24)) fun i27 => ofOR (gSl e25 i26 i27))) fun e28 m29 => XR.bind (XR.of m29 (R.ok (.sh a1))) fun e30 m31 => fldX "Seeker" "shots" (fz e30) (fz e28) m31)) fun _ m32 => .next () m32
def q_Seeker_back : List PyData → List SO → XR OV
  | [a1], m2 => OX.fin (q_Seeker_back_0 m2 a1)
  | _, _ => .stk
def q_Seeker_left_0 (m2 : List SO) (a1 : PyData) : O Unit :=
  O.bind (O.of (R.bind (R.bind (R.bind (R.ok (.sh a1)) fun e3 => ofPR (fldOf "Seeker" "rows" m2 (fz e3))) fun e4 => R.bind (R.ok []) fun l5 => .ok (e4 :: l5)) fun l6 => ofOR ((g1 dLen) l6))) fun o7 => .ret o7
def q_Seeker_left : List PyData → List SO → R OV
  | [a1], m2 => O.fin (q_Seeker_left_0 m2 a1)
  | _, _ => .stk
def b_rows_of_ships_1 : Rho → Out :=
  (sCons (sExpr (eMut 5 "list" mExt (lCons (eLc [7] (iRange3 (lCons (eV 2) (lCons (eBin gAdd (eSub (eV 3) (eV 4)) (cC (.int 1))) (lCons (eV 4) lNil)))) (hName 7) tYesR (eTup (lCons (eV 6) (lCons (eV 7) (lCons (cC (.str "along")) (lCons (eV 4) lNil)))))) lNil)))
    sNil)
def b_rows_of_ships : Rho → Out :=
  (sCons (sSet 5 (eLst lNil))
    (sCons (sFor [6, 7] (iRange2 (lCons (eV 0) (lCons (eV 1) lNil))) (hName 6) b_rows_of_ships_1)
    (sCons (sRet (eM 5))
    sNil)))
def m_rows_of_ships : List PyData → List SO → Rv := runP 8 b_rows_of_ships
def q_rows_of_ships_1 (a3 : PyData) (a4 : PyData) (a5 : PyData) (x43 : PyData) (s42 : OV) : O (OV) :=
  O.bind (O.of (R.bind (ownR "list" s42) fun _ => R.bind (R.bind (R.bind (R.bind (R.bind (R.ok (.sh a3)) fun e80 => R.bind (R.bind (R.bind (R.bind (R.ok (.sh a4)) fun e72 => R.bind (R.ok (.sh a5)) fun e73 => ofOR (gSubI e72 e73)) fun e74 => R.bind (R.ok (.sh (.int 1))) fun e75 => ofOR (gAdd e74 e75)) fun e78 => R.bind (R.bind (R.ok (.sh a5)) fun e76 => R.bind (R.ok []) fun l77 => .ok (e76 :: l77)) fun l79 => .ok (e78 :: l79)) fun l81 => .ok (e80 :: l81)) rng3R) fun z93 => R.bind (lcR (fun x82 => R.bind (R.bind (R.bind (R.ok (.sh x43)) fun e89 => R.bind (R.bind (R.ok (.sh x82)) fun e87 => R.bind (R.bind (R.ok (.sh (.str "along"))) fun e85 => R.bind (R.bind (R.ok (.sh a5)) fun e83 => R.bind (R.ok []) fun l84 => .ok (e83 :: l84)) fun l86 => .ok (e85 :: l86)) fun l88 => .ok (e87 :: l88)) fun l90 => .ok (e89 :: l90)) fun l91 => szR l91.length (.sh (.tuple (l91.map fz)))) fun o92 => .ok (some o92)) z93) fun l94 => szR l94.length (.lst l94)) fun e95 => R.bind (R.ok []) fun l96 => .ok (e95 :: l96)) fun l98 => R.bind (mutR mExt s42 l98) fun r99 => .ok r99.1)) fun (v97 : OV) => .next v97
theorem okq_rows_of_ships_1 {μ : List SO} (a3 : PyData) (a4 : PyData) (a5 : PyData) (x43 : PyData) (s42 : OV) : jS μ b_rows_of_ships_1 [.no, .no, .ex (.sh a3), .ex (.sh a4), .ex (.sh a5), .ex s42, .ex (.sh x43), .no] (q_rows_of_ships_1 a3 a4 a5 x43 s42) (fun (s42 : OV) => [.no, .no, .ex (.sh a3), .ex (.sh a4), .ex (.sh a5), .ex s42, .no, .no]) := by
  unfold q_rows_of_ships_1 b_rows_of_ships_1
  exact (js_seq (st1 := fun (v97 : OV) => [.no, .no, .ex (.sh a3), .ex (.sh a4), .ex (.sh a5), .ex v97, .ex (.sh x43), .no]) (js_mut rfl (j_lcons (j_lc (pc := [.no, .no, .ex (.sh a3), .ex (.sh a4), .ex (.sh a5), .ex s42, .ex (.sh x43), .no]) (j_irange3 (j_lcons (j_v rfl) (j_lcons (j_bin (j_bin (j_v rfl) (j_v rfl)) j_c) (j_lcons (j_v rfl) j_lnil)))) .rf fun x82 => (j_turn1N (j_tup (j_lcons (j_v rfl) (j_lcons (j_v rfl) (j_lcons j_c (j_lcons (j_v rfl) j_lnil))))) .rf)) j_lnil) rfl) fun v97 => (js_nil (by exact (.eq (.eq (.eq (.eq (.eq (.eq (.no (.eq .nil)))))))))))
def q_rows_of_ships_0 (a1 : PyData) (a2 : PyData) (a3 : PyData) (a4 : PyData) (a5 : PyData) : O Unit :=
  O.bind (O.of (R.bind (R.ok []) fun l6 => szR l6.length (.lst l6))) fun (v7 : OV) => O.bind (O.bind (O.of (R.bind (R.bind (R.ok (.sh a1)) fun e10 => R.bind (R.bind (R.ok (.sh a2)) fun e8 => R.bind (R.ok []) fun l9 => .ok (e8 :: l9)) fun l11 => .ok (e10 :: l11)) rng2R)) fun z100 => forO z100 (fun x43 s42 => q_rows_of_ships_1 a3 a4 a5 x43 s42) v7) fun (s101 : OV) => O.bind (O.of (R.ok s101)) fun o102 => .ret o102
theorem okq_rows_of_ships_0 {μ : List SO} (a1 : PyData) (a2 : PyData) (a3 : PyData) (a4 : PyData) (a5 : PyData) : jS μ b_rows_of_ships [.ex (.sh a1), .ex (.sh a2), .ex (.sh a3), .ex (.sh a4), .ex (.sh a5), .un, .un, .un] (q_rows_of_ships_0 a1 a2 a3 a4 a5) (fun _ : Unit => [.no, .no, .no, .no, .no, .no, .no, .no]) := by
  unfold q_rows_of_ships_0 b_rows_of_ships
  exact (js_seq (st1 := fun (v7 : OV) => [.ex (.sh a1), .ex (.sh a2), .ex (.sh a3), .ex (.sh a4), .ex (.sh a5), .ex v7, .un, .un]) (js_set (j_lst j_lnil)) fun v7 => (js_seq (st1 := fun (s101 : OV) => [.no, .no, .ex (.sh a3), .ex (.sh a4), .ex (.sh a5), .ex s101, .no, .no]) (js_forN (st := fun (s42 : OV) => [.no, .no, .ex (.sh a3), .ex (.sh a4), .ex (.sh a5), .ex s42, .no, .no]) (j_irange2 (j_lcons (j_v rfl) (j_lcons (j_v rfl) j_lnil))) (by exact (.no (.no (.eq (.eq (.eq (.eq (.eq (.eq .nil))))))))) (fun x43 s42 => okq_rows_of_ships_1 a3 a4 a5 x43 s42) (fun _ => rfl)) fun s101 => (js_retc (j_m rfl))))
def q_rows_of_ships : List PyData → R OV
  | [a1, a2, a3, a4, a5] => O.fin (q_rows_of_ships_0 a1 a2 a3 a4 a5)
  | _ => .stk
theorem okq_rows_of_ships : jP m_rows_of_ships q_rows_of_ships := fun ds μ => match ds with
  | [a1, a2, a3, a4, a5] => j_def (qq := q_rows_of_ships_0 a1 a2 a3 a4 a5) (okq_rows_of_ships_0 a1 a2 a3 a4 a5)
  | [] => trivial
  | [_] => trivial
  | [_, _] => trivial
  | [_, _, _] => trivial
  | [_, _, _, _] => trivial
  | _ :: _ :: _ :: _ :: _ :: _ :: _ => trivial
def b_columns_of_ships_1 : Rho → Out :=
  (sCons (sExpr (eMut 5 "list" mExt (lCons (eLc [7] (iRange3 (lCons (eV 0) (lCons (eBin gAdd (eSub (eV 1) (eV 4)) (cC (.int 1))) (lCons (eV 4) lNil)))) (hName 7) tYesR (eTup (lCons (eV 7) (lCons (eV 6) (lCons (cC (.str "down")) (lCons (eV 4) lNil)))))) lNil)))
    sNil)
def b_columns_of_ships : Rho → Out :=
  (sCons (sIf (eTest (eBin (gEq false) (eV 4) (cC (.int 1)))) (sCons (sRet (eCall m_rows_of_ships (lCons (eV 0) (lCons (eV 1) (lCons (eV 2) (lCons (eV 3) (lCons (cC (.int 1)) lNil)))))))
    sNil) sNil)
    (sCons (sSet 5 (eLst lNil))
    (sCons (sFor [6, 7] (iRange2 (lCons (eV 2) (lCons (eV 3) lNil))) (hName 6) b_columns_of_ships_1)
    (sCons (sRet (eM 5))
    sNil))))
def m_columns_of_ships : List PyData → List SO → Rv := runP 8 b_columns_of_ships
def q_columns_of_ships_1 (a1 : PyData) (a2 : PyData) (a5 : PyData) (x71 : PyData) (s70 : OV) : O (OV) :=
  O.bind (O.of (R.bind (ownR "list" s70) fun _ => R.bind (R.bind (R.bind (R.bind (R.bind (R.ok (.sh a1)) fun e108 => R.bind (R.bind (R.bind (R.bind (R.ok (.sh a2)) fun e100 => R.bind (R.ok (.sh a5)) fun e101 => ofOR (gSubI e100 e101)) fun e102 => R.bind (R.ok (.sh (.int 1))) fun e103 => ofOR (gAdd e102 e103)) fun e106 => R.bind (R.bind (R.ok (.sh a5)) fun e104 => R.bind (R.ok []) fun l105 => .ok (e104 :: l105)) fun l107 => .ok (e106 :: l107)) fun l109 => .ok (e108 :: l109)) rng3R) fun z121 => R.bind (lcR (fun x110 => R.bind (R.bind (R.bind (R.ok (.sh x110)) fun e117 => R.bind (R.bind (R.ok (.sh x71)) fun e115 => R.bind (R.bind (R.ok (.sh (.str "down"))) fun e113 => R.bind (R.bind (R.ok (.sh a5)) fun e111 => R.bind (R.ok []) fun l112 => .ok (e111 :: l112)) fun l114 => .ok (e113 :: l114)) fun l116 => .ok (e115 :: l116)) fun l118 => .ok (e117 :: l118)) fun l119 => szR l119.length (.sh (.tuple (l119.map fz)))) fun o120 => .ok (some o120)) z121) fun l122 => szR l122.length (.lst l122)) fun e123 => R.bind (R.ok []) fun l124 => .ok (e123 :: l124)) fun l126 => R.bind (mutR mExt s70 l126) fun r127 => .ok r127.1)) fun (v125 : OV) => .next v125
theorem okq_columns_of_ships_1 {μ : List SO} (a1 : PyData) (a2 : PyData) (a5 : PyData) (x71 : PyData) (s70 : OV) : jS μ b_columns_of_ships_1 [.ex (.sh a1), .ex (.sh a2), .no, .no, .ex (.sh a5), .ex s70, .ex (.sh x71), .no] (q_columns_of_ships_1 a1 a2 a5 x71 s70) (fun (s70 : OV) => [.ex (.sh a1), .ex (.sh a2), .no, .no, .ex (.sh a5), .ex s70, .no, .no]) := by
  unfold q_columns_of_ships_1 b_columns_of_ships_1
  exact (js_seq (st1 := fun (v125 : OV) => [.ex (.sh a1), .ex (.sh a2), .no, .no, .ex (.sh a5), .ex v125, .ex (.sh x71), .no]) (js_mut rfl (j_lcons (j_lc (pc := [.ex (.sh a1), .ex (.sh a2), .no, .no, .ex (.sh a5), .ex s70, .ex (.sh x71), .no]) (j_irange3 (j_lcons (j_v rfl) (j_lcons (j_bin (j_bin (j_v rfl) (j_v rfl)) j_c) (j_lcons (j_v rfl) j_lnil)))) .rf fun x110 => (j_turn1N (j_tup (j_lcons (j_v rfl) (j_lcons (j_v rfl) (j_lcons j_c (j_lcons (j_v rfl) j_lnil))))) .rf)) j_lnil) rfl) fun v125 => (js_nil (by exact (.eq (.eq (.eq (.eq (.eq (.eq (.no (.eq .nil)))))))))))
def q_columns_of_ships_0 (a1 : PyData) (a2 : PyData) (a3 : PyData) (a4 : PyData) (a5 : PyData) : O Unit :=
  O.bind (O.bind (O.of (R.bind (R.bind (R.ok (.sh a5)) fun e6 => R.bind (R.ok (.sh (.int 1))) fun e7 => ofOR (gEq false e6 e7)) toBR)) fun b33 => if b33 = true then O.bind (O.of (R.bind (R.bind (R.ok (.sh a1)) fun e29 => R.bind (R.bind (R.ok (.sh a2)) fun e27 => R.bind (R.bind (R.ok (.sh a3)) fun e25 => R.bind (R.bind (R.ok (.sh a4)) fun e23 => R.bind (R.bind (R.ok (.sh (.int 1))) fun e21 => R.bind (R.ok []) fun l22 => .ok (e21 :: l22)) fun l24 => .ok (e23 :: l24)) fun l26 => .ok (e25 :: l26)) fun l28 => .ok (e27 :: l28)) fun l30 => .ok (e29 :: l30)) fun l31 => q_rows_of_ships (l31.map fz))) fun o32 => .ret o32 else .next ()) fun s20 => O.bind (O.of (R.bind (R.ok []) fun l34 => szR l34.length (.lst l34))) fun (v35 : OV) => O.bind (O.bind (O.of (R.bind (R.bind (R.ok (.sh a3)) fun e38 => R.bind (R.bind (R.ok (.sh a4)) fun e36 => R.bind (R.ok []) fun l37 => .ok (e36 :: l37)) fun l39 => .ok (e38 :: l39)) rng2R)) fun z128 => forO z128 (fun x71 s70 => q_columns_of_ships_1 a1 a2 a5 x71 s70) v35) fun (s129 : OV) => O.bind (O.of (R.ok s129)) fun o130 => .ret o130
theorem okq_columns_of_ships_0 {μ : List SO} (a1 : PyData) (a2 : PyData) (a3 : PyData) (a4 : PyData) (a5 : PyData) : jS μ b_columns_of_ships [.ex (.sh a1), .ex (.sh a2), .ex (.sh a3), .ex (.sh a4), .ex (.sh a5), .un, .un, .un] (q_columns_of_ships_0 a1 a2 a3 a4 a5) (fun _ : Unit => [.no, .no, .no, .no, .no, .no, .no, .no]) := by
  unfold q_columns_of_ships_0 b_columns_of_ships
  exact (js_seq (st1 := fun (s20 : Unit) => [.ex (.sh a1), .ex (.sh a2), .ex (.sh a3), .ex (.sh a4), .ex (.sh a5), .no, .no, .no]) (js_if (j_test (j_bin (j_v rfl) j_c)) (js_retc (j_call okq_rows_of_ships (j_lcons (j_v rfl) (j_lcons (j_v rfl) (j_lcons (j_v rfl) (j_lcons (j_v rfl) (j_lcons j_c j_lnil))))))) (js_nil (by exact (.eq (.eq (.eq (.eq (.eq (.no (.no (.no .nil))))))))))) fun s20 => (js_seq (st1 := fun (v35 : OV) => [.ex (.sh a1), .ex (.sh a2), .ex (.sh a3), .ex (.sh a4), .ex (.sh a5), .ex v35, .no, .no]) (js_set (j_lst j_lnil)) fun v35 => (js_seq (st1 := fun (s129 : OV) => [.ex (.sh a1), .ex (.sh a2), .no, .no, .ex (.sh a5), .ex s129, .no, .no]) (js_forN (st := fun (s70 : OV) => [.ex (.sh a1), .ex (.sh a2), .no, .no, .ex (.sh a5), .ex s70, .no, .no]) (j_irange2 (j_lcons (j_v rfl) (j_lcons (j_v rfl) j_lnil))) (by exact (.eq (.eq (.no (.no (.eq (.eq (.eq (.eq .nil))))))))) (fun x71 s70 => okq_columns_of_ships_1 a1 a2 a5 x71 s70) (fun _ => rfl)) fun s129 => (js_retc (j_m rfl)))))
def q_columns_of_ships : List PyData → R OV
  | [a1, a2, a3, a4, a5] => O.fin (q_columns_of_ships_0 a1 a2 a3 a4 a5)
  | _ => .stk
theorem okq_columns_of_ships : jP m_columns_of_ships q_columns_of_ships := fun ds μ => match ds with
  | [a1, a2, a3, a4, a5] => j_def (qq := q_columns_of_ships_0 a1 a2 a3 a4 a5) (okq_columns_of_ships_0 a1 a2 a3 a4 a5)
  | [] => trivial
  | [_] => trivial
  | [_, _] => trivial
  | [_, _, _] => trivial
  | [_, _, _, _] => trivial
  | _ :: _ :: _ :: _ :: _ :: _ :: _ => trivial
def b_apart_ships : Rho → Out :=
  (sCons (sIf (eTest (eBin (gGt) (eV 2) (eV 0))) (sCons (sRet (eCall m_rows_of_ships (lCons (cC (.int 0)) (lCons (eV 0) (lCons (cC (.int 0)) (lCons (eV 1) (lCons (eV 2) lNil)))))))
    sNil) sNil)
    (sCons (sIf (eTest (eBin (gGt) (eV 2) (eV 1))) (sCons (sRet (eCall m_columns_of_ships (lCons (cC (.int 0)) (lCons (eV 0) (lCons (cC (.int 0)) (lCons (eV 1) (lCons (eV 2) lNil)))))))
    sNil) sNil)
    (sCons (sPar 3 4 (lCons (eMod (eV 0) (eV 2)) (lCons (eMod (eV 1) (eV 2)) lNil)))
    (sCons (sIf (eTest (eBin (gLe) (eBin gAdd (eV 3) (eV 4)) (eV 2))) (sCons (sSet 5 (eCall m_columns_of_ships (lCons (cC (.int 0)) (lCons (eSub (eV 0) (eV 3)) (lCons (cC (.int 0)) (lCons (eV 1) (lCons (eV 2) lNil)))))))
    (sCons (sRet (eBin gAdd (eV 5) (eCall m_rows_of_ships (lCons (eSub (eV 0) (eV 3)) (lCons (eV 0) (lCons (cC (.int 0)) (lCons (eV 1) (lCons (eV 2) lNil))))))))
    sNil)) sNil)
    (sCons (sPar 6 7 (lCons (eBin gAdd (eV 2) (eV 3)) (lCons (eBin gAdd (eV 2) (eV 4)) lNil)))
    (sCons (sSet 5 (eBin gAdd (eCall m_columns_of_ships (lCons (eV 6) (lCons (eV 0) (lCons (cC (.int 0)) (lCons (eV 1) (lCons (eV 2) lNil)))))) (eCall m_rows_of_ships (lCons (cC (.int 0)) (lCons (eV 6) (lCons (eV 7) (lCons (eV 1) (lCons (eV 2) lNil))))))))
    (sCons (sSet 5 (eBin gAdd (eV 5) (eCall m_rows_of_ships (lCons (cC (.int 0)) (lCons (eV 3) (lCons (cC (.int 0)) (lCons (eV 2) (lCons (eV 2) lNil))))))))
    (sCons (sSet 5 (eBin gAdd (eV 5) (eCall m_columns_of_ships (lCons (cC (.int 0)) (lCons (eV 2) (lCons (eV 2) (lCons (eV 7) (lCons (eV 2) lNil))))))))
    (sCons (sSet 5 (eBin gAdd (eV 5) (eCall m_rows_of_ships (lCons (eV 2) (lCons (eV 6) (lCons (eV 4) (lCons (eV 7) (lCons (eV 2) lNil))))))))
    (sCons (sRet (eBin gAdd (eV 5) (eCall m_columns_of_ships (lCons (eV 3) (lCons (eV 6) (lCons (cC (.int 0)) (lCons (eV 4) (lCons (eV 2) lNil))))))))
    sNil))))))))))
def m_apart_ships : List PyData → List SO → Rv := runP 8 b_apart_ships
def q_apart_ships_0 (a1 : PyData) (a2 : PyData) (a3 : PyData) : O Unit :=
  O.bind (O.bind (O.of (R.bind (R.bind (R.ok (.sh a3)) fun e4 => R.bind (R.ok (.sh a1)) fun e5 => ofOR (gGt e4 e5)) toBR)) fun b31 => if b31 = true then O.bind (O.of (R.bind (R.bind (R.ok (.sh (.int 0))) fun e27 => R.bind (R.bind (R.ok (.sh a1)) fun e25 => R.bind (R.bind (R.ok (.sh (.int 0))) fun e23 => R.bind (R.bind (R.ok (.sh a2)) fun e21 => R.bind (R.bind (R.ok (.sh a3)) fun e19 => R.bind (R.ok []) fun l20 => .ok (e19 :: l20)) fun l22 => .ok (e21 :: l22)) fun l24 => .ok (e23 :: l24)) fun l26 => .ok (e25 :: l26)) fun l28 => .ok (e27 :: l28)) fun l29 => q_rows_of_ships (l29.map fz))) fun o30 => .ret o30 else .next ()) fun s18 => O.bind (O.bind (O.of (R.bind (R.bind (R.ok (.sh a3)) fun e32 => R.bind (R.ok (.sh a2)) fun e33 => ofOR (gGt e32 e33)) toBR)) fun b59 => if b59 = true then O.bind (O.of (R.bind (R.bind (R.ok (.sh (.int 0))) fun e55 => R.bind (R.bind (R.ok (.sh a1)) fun e53 => R.bind (R.bind (R.ok (.sh (.int 0))) fun e51 => R.bind (R.bind (R.ok (.sh a2)) fun e49 => R.bind (R.bind (R.ok (.sh a3)) fun e47 => R.bind (R.ok []) fun l48 => .ok (e47 :: l48)) fun l50 => .ok (e49 :: l50)) fun l52 => .ok (e51 :: l52)) fun l54 => .ok (e53 :: l54)) fun l56 => .ok (e55 :: l56)) fun l57 => q_columns_of_ships (l57.map fz))) fun o58 => .ret o58 else .next ()) fun s46 => O.bind (O.of (R.bind (R.bind (R.bind (R.ok (.sh a1)) fun e60 => R.bind (R.ok (.sh a3)) fun e61 => ofOR (gModI e60 e61)) fun e66 => R.bind (R.bind (R.bind (R.ok (.sh a2)) fun e62 => R.bind (R.ok (.sh a3)) fun e63 => ofOR (gModI e62 e63)) fun e64 => R.bind (R.ok []) fun l65 => .ok (e64 :: l65)) fun l67 => .ok (e66 :: l67)) par2R)) fun v68 => O.bind (O.bind (O.of (R.bind (R.bind (R.bind (R.ok (.sh (fz v68.1))) fun e69 => R.bind (R.ok (.sh (fz v68.2))) fun e70 => ofOR (gAdd e69 e70)) fun e71 => R.bind (R.ok (.sh a3)) fun e72 => ofOR (gLe e71 e72)) toBR)) fun b134 => if b134 = true then O.bind (O.of (R.bind (R.bind (R.ok (.sh (.int 0))) fun e114 => R.bind (R.bind (R.bind (R.ok (.sh a1)) fun e104 => R.bind (R.ok (.sh (fz v68.1))) fun e105 => ofOR (gSubI e104 e105)) fun e112 => R.bind (R.bind (R.ok (.sh (.int 0))) fun e110 => R.bind (R.bind (R.ok (.sh a2)) fun e108 => R.bind (R.bind (R.ok (.sh a3)) fun e106 => R.bind (R.ok []) fun l107 => .ok (e106 :: l107)) fun l109 => .ok (e108 :: l109)) fun l111 => .ok (e110 :: l111)) fun l113 => .ok (e112 :: l113)) fun l115 => .ok (e114 :: l115)) fun l116 => q_columns_of_ships (l116.map fz))) fun (v117 : OV) => O.bind (O.of (R.bind (R.ok (.sh (fz v117))) fun e131 => R.bind (R.bind (R.bind (R.bind (R.ok (.sh a1)) fun e118 => R.bind (R.ok (.sh (fz v68.1))) fun e119 => ofOR (gSubI e118 e119)) fun e128 => R.bind (R.bind (R.ok (.sh a1)) fun e126 => R.bind (R.bind (R.ok (.sh (.int 0))) fun e124 => R.bind (R.bind (R.ok (.sh a2)) fun e122 => R.bind (R.bind (R.ok (.sh a3)) fun e120 => R.bind (R.ok []) fun l121 => .ok (e120 :: l121)) fun l123 => .ok (e122 :: l123)) fun l125 => .ok (e124 :: l125)) fun l127 => .ok (e126 :: l127)) fun l129 => .ok (e128 :: l129)) fun l130 => q_rows_of_ships (l130.map fz)) fun e132 => ofOR (gAdd e131 e132))) fun o133 => .ret o133 else .next ()) fun s103 => O.bind (O.of (R.bind (R.bind (R.bind (R.ok (.sh a3)) fun e135 => R.bind (R.ok (.sh (fz v68.1))) fun e136 => ofOR (gAdd e135 e136)) fun e141 => R.bind (R.bind (R.bind (R.ok (.sh a3)) fun e137 => R.bind (R.ok (.sh (fz v68.2))) fun e138 => ofOR (gAdd e137 e138)) fun e139 => R.bind (R.ok []) fun l140 => .ok (e139 :: l140)) fun l142 => .ok (e141 :: l142)) par2R)) fun v143 => O.bind (O.of (R.bind (R.bind (R.bind (R.ok (.sh (fz v143.1))) fun e152 => R.bind (R.bind (R.ok (.sh a1)) fun e150 => R.bind (R.bind (R.ok (.sh (.int 0))) fun e148 => R.bind (R.bind (R.ok (.sh a2)) fun e146 => R.bind (R.bind (R.ok (.sh a3)) fun e144 => R.bind (R.ok []) fun l145 => .ok (e144 :: l145)) fun l147 => .ok (e146 :: l147)) fun l149 => .ok (e148 :: l149)) fun l151 => .ok (e150 :: l151)) fun l153 => .ok (e152 :: l153)) fun l154 => q_columns_of_ships (l154.map fz)) fun e166 => R.bind (R.bind (R.bind (R.ok (.sh (.int 0))) fun e163 => R.bind (R.bind (R.ok (.sh (fz v143.1))) fun e161 => R.bind (R.bind (R.ok (.sh (fz v143.2))) fun e159 => R.bind (R.bind (R.ok (.sh a2)) fun e157 => R.bind (R.bind (R.ok (.sh a3)) fun e155 => R.bind (R.ok []) fun l156 => .ok (e155 :: l156)) fun l158 => .ok (e157 :: l158)) fun l160 => .ok (e159 :: l160)) fun l162 => .ok (e161 :: l162)) fun l164 => .ok (e163 :: l164)) fun l165 => q_rows_of_ships (l165.map fz)) fun e167 => ofOR (gAdd e166 e167))) fun (v168 : OV) => O.bind (O.of (R.bind (R.ok (.sh (fz v168))) fun e180 => R.bind (R.bind (R.bind (R.ok (.sh (.int 0))) fun e177 => R.bind (R.bind (R.ok (.sh (fz v68.1))) fun e175 => R.bind (R.bind (R.ok (.sh (.int 0))) fun e173 => R.bind (R.bind (R.ok (.sh a3)) fun e171 => R.bind (R.bind (R.ok (.sh a3)) fun e169 => R.bind (R.ok []) fun l170 => .ok (e169 :: l170)) fun l172 => .ok (e171 :: l172)) fun l174 => .ok (e173 :: l174)) fun l176 => .ok (e175 :: l176)) fun l178 => .ok (e177 :: l178)) fun l179 => q_rows_of_ships (l179.map fz)) fun e181 => ofOR (gAdd e180 e181))) fun (v182 : OV) => O.bind (O.of (R.bind (R.ok (.sh (fz v182))) fun e194 => R.bind (R.bind (R.bind (R.ok (.sh (.int 0))) fun e191 => R.bind (R.bind (R.ok (.sh a3)) fun e189 => R.bind (R.bind (R.ok (.sh a3)) fun e187 => R.bind (R.bind (R.ok (.sh (fz v143.2))) fun e185 => R.bind (R.bind (R.ok (.sh a3)) fun e183 => R.bind (R.ok []) fun l184 => .ok (e183 :: l184)) fun l186 => .ok (e185 :: l186)) fun l188 => .ok (e187 :: l188)) fun l190 => .ok (e189 :: l190)) fun l192 => .ok (e191 :: l192)) fun l193 => q_columns_of_ships (l193.map fz)) fun e195 => ofOR (gAdd e194 e195))) fun (v196 : OV) => O.bind (O.of (R.bind (R.ok (.sh (fz v196))) fun e208 => R.bind (R.bind (R.bind (R.ok (.sh a3)) fun e205 => R.bind (R.bind (R.ok (.sh (fz v143.1))) fun e203 => R.bind (R.bind (R.ok (.sh (fz v68.2))) fun e201 => R.bind (R.bind (R.ok (.sh (fz v143.2))) fun e199 => R.bind (R.bind (R.ok (.sh a3)) fun e197 => R.bind (R.ok []) fun l198 => .ok (e197 :: l198)) fun l200 => .ok (e199 :: l200)) fun l202 => .ok (e201 :: l202)) fun l204 => .ok (e203 :: l204)) fun l206 => .ok (e205 :: l206)) fun l207 => q_rows_of_ships (l207.map fz)) fun e209 => ofOR (gAdd e208 e209))) fun (v210 : OV) => O.bind (O.of (R.bind (R.ok (.sh (fz v210))) fun e222 => R.bind (R.bind (R.bind (R.ok (.sh (fz v68.1))) fun e219 => R.bind (R.bind (R.ok (.sh (fz v143.1))) fun e217 => R.bind (R.bind (R.ok (.sh (.int 0))) fun e215 => R.bind (R.bind (R.ok (.sh (fz v68.2))) fun e213 => R.bind (R.bind (R.ok (.sh a3)) fun e211 => R.bind (R.ok []) fun l212 => .ok (e211 :: l212)) fun l214 => .ok (e213 :: l214)) fun l216 => .ok (e215 :: l216)) fun l218 => .ok (e217 :: l218)) fun l220 => .ok (e219 :: l220)) fun l221 => q_columns_of_ships (l221.map fz)) fun e223 => ofOR (gAdd e222 e223))) fun o224 => .ret o224
theorem okq_apart_ships_0 {μ : List SO} (a1 : PyData) (a2 : PyData) (a3 : PyData) : jS μ b_apart_ships [.ex (.sh a1), .ex (.sh a2), .ex (.sh a3), .un, .un, .un, .un, .un] (q_apart_ships_0 a1 a2 a3) (fun _ : Unit => [.no, .no, .no, .no, .no, .no, .no, .no]) := by
  unfold q_apart_ships_0 b_apart_ships
  exact (js_seq (st1 := fun (s18 : Unit) => [.ex (.sh a1), .ex (.sh a2), .ex (.sh a3), .no, .no, .no, .no, .no]) (js_if (j_test (j_bin (j_v rfl) (j_v rfl))) (js_retc (j_call okq_rows_of_ships (j_lcons j_c (j_lcons (j_v rfl) (j_lcons j_c (j_lcons (j_v rfl) (j_lcons (j_v rfl) j_lnil))))))) (js_nil (by exact (.eq (.eq (.eq (.no (.no (.no (.no (.no .nil))))))))))) fun s18 => (js_seq (st1 := fun (s46 : Unit) => [.ex (.sh a1), .ex (.sh a2), .ex (.sh a3), .no, .no, .no, .no, .no]) (js_if (j_test (j_bin (j_v rfl) (j_v rfl))) (js_retc (j_call okq_columns_of_ships (j_lcons j_c (j_lcons (j_v rfl) (j_lcons j_c (j_lcons (j_v rfl) (j_lcons (j_v rfl) j_lnil))))))) (js_nil .rf)) fun s46 => (js_seq (st1 := fun (v68 : OV × OV) => [.ex (.sh a1), .ex (.sh a2), .ex (.sh a3), .ex v68.1, .ex v68.2, .no, .no, .no]) (js_par (j_lcons (j_bin (j_v rfl) (j_v rfl)) (j_lcons (j_bin (j_v rfl) (j_v rfl)) j_lnil))) fun v68 => (js_seq (st1 := fun (s103 : Unit) => [.ex (.sh a1), .ex (.sh a2), .ex (.sh a3), .ex (.sh (fz v68.1)), .ex (.sh (fz v68.2)), .no, .no, .no]) (js_if (j_test (j_bin (j_bin (j_vx rfl) (j_vx rfl)) (j_v rfl))) (js_seq (st1 := fun (v117 : OV) => [.ex (.sh a1), .ex (.sh a2), .ex (.sh a3), .ex (.sh (fz v68.1)), .ex (.sh (fz v68.2)), .ex v117, .no, .no]) (js_set (j_call okq_columns_of_ships (j_lcons j_c (j_lcons (j_bin (j_v rfl) (j_v rfl)) (j_lcons j_c (j_lcons (j_v rfl) (j_lcons (j_v rfl) j_lnil))))))) fun v117 => (js_retc (j_bin (j_vx rfl) (j_call okq_rows_of_ships (j_lcons (j_bin (j_v rfl) (j_v rfl)) (j_lcons (j_v rfl) (j_lcons j_c (j_lcons (j_v rfl) (j_lcons (j_v rfl) j_lnil))))))))) (js_nil .rf)) fun s103 => (js_seq (st1 := fun (v143 : OV × OV) => [.ex (.sh a1), .ex (.sh a2), .ex (.sh a3), .ex (.sh (fz v68.1)), .ex (.sh (fz v68.2)), .no, .ex v143.1, .ex v143.2]) (js_par (j_lcons (j_bin (j_v rfl) (j_v rfl)) (j_lcons (j_bin (j_v rfl) (j_v rfl)) j_lnil))) fun v143 => (js_seq (st1 := fun (v168 : OV) => [.ex (.sh a1), .ex (.sh a2), .ex (.sh a3), .ex (.sh (fz v68.1)), .ex (.sh (fz v68.2)), .ex v168, .ex (.sh (fz v143.1)), .ex (.sh (fz v143.2))]) (js_set (j_bin (j_call okq_columns_of_ships (j_lcons (j_vx rfl) (j_lcons (j_v rfl) (j_lcons j_c (j_lcons (j_v rfl) (j_lcons (j_v rfl) j_lnil)))))) (j_call okq_rows_of_ships (j_lcons j_c (j_lcons (j_v rfl) (j_lcons (j_vx rfl) (j_lcons (j_v rfl) (j_lcons (j_v rfl) j_lnil)))))))) fun v168 => (js_seq (st1 := fun (v182 : OV) => [.ex (.sh a1), .ex (.sh a2), .ex (.sh a3), .ex (.sh (fz v68.1)), .ex (.sh (fz v68.2)), .ex v182, .ex (.sh (fz v143.1)), .ex (.sh (fz v143.2))]) (js_set (j_bin (j_vx rfl) (j_call okq_rows_of_ships (j_lcons j_c (j_lcons (j_v rfl) (j_lcons j_c (j_lcons (j_v rfl) (j_lcons (j_v rfl) j_lnil)))))))) fun v182 => (js_seq (st1 := fun (v196 : OV) => [.ex (.sh a1), .ex (.sh a2), .ex (.sh a3), .ex (.sh (fz v68.1)), .ex (.sh (fz v68.2)), .ex v196, .ex (.sh (fz v143.1)), .ex (.sh (fz v143.2))]) (js_set (j_bin (j_vx rfl) (j_call okq_columns_of_ships (j_lcons j_c (j_lcons (j_v rfl) (j_lcons (j_v rfl) (j_lcons (j_v rfl) (j_lcons (j_v rfl) j_lnil)))))))) fun v196 => (js_seq (st1 := fun (v210 : OV) => [.ex (.sh a1), .ex (.sh a2), .ex (.sh a3), .ex (.sh (fz v68.1)), .ex (.sh (fz v68.2)), .ex v210, .ex (.sh (fz v143.1)), .ex (.sh (fz v143.2))]) (js_set (j_bin (j_vx rfl) (j_call okq_rows_of_ships (j_lcons (j_v rfl) (j_lcons (j_v rfl) (j_lcons (j_v rfl) (j_lcons (j_v rfl) (j_lcons (j_v rfl) j_lnil)))))))) fun v210 => (js_retc (j_bin (j_vx rfl) (j_call okq_columns_of_ships (j_lcons (j_v rfl) (j_lcons (j_v rfl) (j_lcons j_c (j_lcons (j_v rfl) (j_lcons (j_v rfl) j_lnil)))))))))))))))))
def q_apart_ships : List PyData → R OV
  | [a1, a2, a3] => O.fin (q_apart_ships_0 a1 a2 a3)
  | _ => .stk
theorem okq_apart_ships : jP m_apart_ships q_apart_ships := fun ds μ => match ds with
  | [a1, a2, a3] => j_def (qq := q_apart_ships_0 a1 a2 a3) (okq_apart_ships_0 a1 a2 a3)
  | [] => trivial
  | [_] => trivial
  | [_, _] => trivial
  | _ :: _ :: _ :: _ :: _ => trivial
def b_net_cells_1 : Rho → Out :=
  (sCons (sSet 6 (eBin gAdd (eV 4) (eV 5)))
    (sCons (sIf (eTest (eBin (gGt) (eV 2) (eV 0))) (sCons (sSet 6 (eBin gAdd (eV 5) (cC (.int 1))))
    sNil) sNil)
    (sCons (sIf (eTest (eBin (gGt) (eV 2) (eV 1))) (sCons (sSet 6 (eBin gAdd (eV 4) (cC (.int 1))))
    sNil) sNil)
    (sCons (sExpr (eMutS 3 "list" mApp (eMod (eV 6) (eV 2)) (lCons (eTup (lCons (eV 4) (lCons (eV 5) lNil))) lNil)))
    sNil))))
def b_net_cells_2 : Rho → Out :=
  (sCons (sFor [5, 6] (iRange1 (eV 1)) (hName 5) b_net_cells_1)
    sNil)
def b_net_cells : Rho → Out :=
  (sCons (sIf (bAnd (eTest (eBin (gGt) (eV 2) (eV 0))) (eTest (eBin (gGt) (eV 2) (eV 1)))) (sCons (sRet (eLst lNil))
    sNil) sNil)
    (sCons (sSet 3 (eLc [7] (iRange1 (eV 2)) (hName 7) tYesR (eLst lNil)))
    (sCons (sFor [4, 5, 6] (iRange1 (eV 0)) (hName 4) b_net_cells_2)
    (sCons (sIf (bOr (eTest (eBin (gGt) (eV 2) (eV 0))) (eTest (eBin (gGt) (eV 2) (eV 1)))) (sCons (sRet (eBin gSub (eV 3) (cC (.int 0))))
    sNil) sNil)
    (sCons (sRet (eFn (g1 dMinLen) (lCons (eV 3) lNil)))
    sNil)))))
def m_net_cells : List PyData → List SO → Rv := runP 8 b_net_cells
def q_net_cells_1 (a1 : PyData) (a2 : PyData) (a3 : PyData) (x141 : PyData) (x299 : PyData) (s298 : OV) : O (OV) :=
  O.bind (O.of (R.bind (R.ok (.sh x141)) fun e337 => R.bind (R.ok (.sh x299)) fun e338 => ofOR (gAdd e337 e338))) fun (v339 : OV) => O.bind (O.bind (O.of (R.bind (R.bind (R.ok (.sh a3)) fun e340 => R.bind (R.ok (.sh a1)) fun e341 => ofOR (gGt e340 e341)) toBR)) fun b349 => if b349 = true then O.bind (O.of (R.bind (R.ok (.sh x299)) fun e346 => R.bind (R.ok (.sh (.int 1))) fun e347 => ofOR (gAdd e346 e347))) fun (v348 : OV) => .next v348 else .next v339) fun (s345 : OV) => O.bind (O.bind (O.of (R.bind (R.bind (R.ok (.sh a3)) fun e350 => R.bind (R.ok (.sh a2)) fun e351 => ofOR (gGt e350 e351)) toBR)) fun b359 => if b359 = true then O.bind (O.of (R.bind (R.ok (.sh x141)) fun e356 => R.bind (R.ok (.sh (.int 1))) fun e357 => ofOR (gAdd e356 e357))) fun (v358 : OV) => .next v358 else .next s345) fun (s355 : OV) => O.bind (O.of (R.bind (R.bind (R.ok (.sh (fz s355))) fun e360 => R.bind (R.ok (.sh a3)) fun e361 => ofOR (gModI e360 e361)) fun k372 => R.bind (subR s298 k372) fun o373 => R.bind (ownR "list" o373) fun _ => R.bind (noX (R.bind (R.bind (R.bind (R.ok (.sh x141)) fun e364 => R.bind (R.bind (R.ok (.sh x299)) fun e362 => R.bind (R.ok []) fun l363 => .ok (e362 :: l363)) fun l365 => .ok (e364 :: l365)) fun l366 => szR l366.length (.sh (.tuple (l366.map fz)))) fun e367 => R.bind (R.ok []) fun l368 => .ok (e367 :: l368))) fun l370 => R.bind (mutR mApp o373 l370) fun r371 => .ok (putO s298 (fz k372) r371.1))) fun (v369 : OV) => .next v369
theorem okq_net_cells_1 {μ : List SO} (a1 : PyData) (a2 : PyData) (a3 : PyData) (x141 : PyData) (x299 : PyData) (s298 : OV) : jS μ b_net_cells_1 [.ex (.sh a1), .ex (.sh a2), .ex (.sh a3), .ex s298, .ex (.sh x141), .ex (.sh x299), .no, .no] (q_net_cells_1 a1 a2 a3 x141 x299 s298) (fun (s298 : OV) => [.ex (.sh a1), .ex (.sh a2), .ex (.sh a3), .ex s298, .ex (.sh x141), .no, .no, .no]) := by
  unfold q_net_cells_1 b_net_cells_1
  exact (js_seq (st1 := fun (v339 : OV) => [.ex (.sh a1), .ex (.sh a2), .ex (.sh a3), .ex s298, .ex (.sh x141), .ex (.sh x299), .ex v339, .no]) (js_set (j_bin (j_v rfl) (j_v rfl))) fun v339 => (js_seq (st1 := fun (s345 : OV) => [.ex (.sh a1), .ex (.sh a2), .ex (.sh a3), .ex s298, .ex (.sh x141), .ex (.sh x299), .ex s345, .no]) (js_if (j_test (j_bin (j_v rfl) (j_v rfl))) (js_seq (st1 := fun (v348 : OV) => [.ex (.sh a1), .ex (.sh a2), .ex (.sh a3), .ex s298, .ex (.sh x141), .ex (.sh x299), .ex v348, .no]) (js_set (j_bin (j_v rfl) j_c)) fun v348 => (js_nil .rf)) (js_nil .rf)) fun s345 => (js_seq (st1 := fun (s355 : OV) => [.ex (.sh a1), .ex (.sh a2), .ex (.sh a3), .ex s298, .ex (.sh x141), .ex (.sh x299), .ex s355, .no]) (js_if (j_test (j_bin (j_v rfl) (j_v rfl))) (js_seq (st1 := fun (v358 : OV) => [.ex (.sh a1), .ex (.sh a2), .ex (.sh a3), .ex s298, .ex (.sh x141), .ex (.sh x299), .ex v358, .no]) (js_set (j_bin (j_v rfl) j_c)) fun v358 => (js_nil .rf)) (js_nil .rf)) fun s355 => (js_seq (st1 := fun (v369 : OV) => [.ex (.sh a1), .ex (.sh a2), .ex (.sh a3), .ex v369, .ex (.sh x141), .ex (.sh x299), .ex (.sh (fz s355)), .no]) (js_mutS rfl rfl (j_bin (j_vx rfl) (j_v rfl)) rfl (j_lcons (j_tup (j_lcons (j_v rfl) (j_lcons (j_v rfl) j_lnil))) j_lnil) rfl) fun v369 => (js_nil (by exact (.eq (.eq (.eq (.eq (.eq (.no (.no (.eq .nil))))))))))))))
def q_net_cells_2 (a1 : PyData) (a2 : PyData) (a3 : PyData) (x141 : PyData) (s140 : OV) : O (OV) :=
  O.bind (O.bind (O.of (R.bind (R.ok (.sh a2)) rng1R)) fun z374 => forO z374 (fun x299 s298 => q_net_cells_1 a1 a2 a3 x141 x299 s298) s140) fun (s375 : OV) => .next s375
theorem okq_net_cells_2 {μ : List SO} (a1 : PyData) (a2 : PyData) (a3 : PyData) (x141 : PyData) (s140 : OV) : jS μ b_net_cells_2 [.ex (.sh a1), .ex (.sh a2), .ex (.sh a3), .ex s140, .ex (.sh x141), .no, .no, .no] (q_net_cells_2 a1 a2 a3 x141 s140) (fun (s140 : OV) => [.ex (.sh a1), .ex (.sh a2), .ex (.sh a3), .ex s140, .no, .no, .no, .no]) := by
  unfold q_net_cells_2 b_net_cells_2
  exact (js_seq (st1 := fun (s375 : OV) => [.ex (.sh a1), .ex (.sh a2), .ex (.sh a3), .ex s375, .ex (.sh x141), .no, .no, .no]) (js_forN (st := fun (s298 : OV) => [.ex (.sh a1), .ex (.sh a2), .ex (.sh a3), .ex s298, .ex (.sh x141), .no, .no, .no]) (j_irange1 (j_v rfl)) .rf (fun x299 s298 => okq_net_cells_1 a1 a2 a3 x141 x299 s298) (fun _ => rfl)) fun s375 => (js_nil (by exact (.eq (.eq (.eq (.eq (.no (.eq (.eq (.eq .nil)))))))))))
def q_net_cells_0 (a1 : PyData) (a2 : PyData) (a3 : PyData) : O Unit :=
  O.bind (O.bind (O.of (R.bind (R.bind (R.bind (R.ok (.sh a3)) fun e4 => R.bind (R.ok (.sh a1)) fun e5 => ofOR (gGt e4 e5)) toBR) fun b8 => if b8 = true then (R.bind (R.bind (R.ok (.sh a3)) fun e6 => R.bind (R.ok (.sh a2)) fun e7 => ofOR (gGt e6 e7)) toBR) else .ok false)) fun b14 => if b14 = true then O.bind (O.of (R.bind (R.ok []) fun l12 => szR l12.length (.lst l12))) fun o13 => .ret o13 else .next ()) fun s11 => O.bind (O.of (R.bind (R.bind (R.ok (.sh a3)) rng1R) fun z18 => R.bind (lcR (fun x15 => R.bind (R.bind (R.ok []) fun l16 => szR l16.length (.lst l16)) fun o17 => .ok (some o17)) z18) fun l19 => szR l19.length (.lst l19))) fun (v20 : OV) => O.bind (O.bind (O.of (R.bind (R.ok (.sh a1)) rng1R)) fun z376 => forO z376 (fun x141 s140 => q_net_cells_2 a1 a2 a3 x141 s140) v20) fun (s377 : OV) => O.bind (O.bind (O.of (R.bind (R.bind (R.bind (R.ok (.sh a3)) fun e378 => R.bind (R.ok (.sh a1)) fun e379 => ofOR (gGt e378 e379)) toBR) fun b382 => if b382 = true then .ok true else (R.bind (R.bind (R.ok (.sh a3)) fun e380 => R.bind (R.ok (.sh a2)) fun e381 => ofOR (gGt e380 e381)) toBR))) fun b390 => if b390 = true then O.bind (O.of (R.bind (R.ok (.sh (fz s377))) fun e387 => R.bind (R.ok (.sh (.int 0))) fun e388 => ofOR (gSub e387 e388))) fun o389 => .ret o389 else .next ()) fun s386 => O.bind (O.of (R.bind (R.bind (R.ok (.sh (fz s377))) fun e391 => R.bind (R.ok []) fun l392 => .ok (e391 :: l392)) fun l393 => ofOR ((g1 dMinLen) l393))) fun o394 => .ret o394
theorem okq_net_cells_0 {μ : List SO} (a1 : PyData) (a2 : PyData) (a3 : PyData) : jS μ b_net_cells [.ex (.sh a1), .ex (.sh a2), .ex (.sh a3), .un, .un, .un, .un, .un] (q_net_cells_0 a1 a2 a3) (fun _ : Unit => [.no, .no, .no, .no, .no, .no, .no, .no]) := by
  unfold q_net_cells_0 b_net_cells
  exact (js_seq (st1 := fun (s11 : Unit) => [.ex (.sh a1), .ex (.sh a2), .ex (.sh a3), .no, .no, .no, .no, .no]) (js_if (j_band (j_test (j_bin (j_v rfl) (j_v rfl))) (j_test (j_bin (j_v rfl) (j_v rfl))) .rf) (js_retc (j_lst j_lnil)) (js_nil (by exact (.eq (.eq (.eq (.no (.no (.no (.no (.no .nil))))))))))) fun s11 => (js_seq (st1 := fun (v20 : OV) => [.ex (.sh a1), .ex (.sh a2), .ex (.sh a3), .ex v20, .no, .no, .no, .no]) (js_set (j_lc (pc := [.ex (.sh a1), .ex (.sh a2), .ex (.sh a3), .no, .no, .no, .no, .no]) (j_irange1 (j_v rfl)) .rf fun x15 => (j_turn1N (j_lst j_lnil) .rf))) fun v20 => (js_seq (st1 := fun (s377 : OV) => [.ex (.sh a1), .ex (.sh a2), .ex (.sh a3), .ex s377, .no, .no, .no, .no]) (js_forN (st := fun (s140 : OV) => [.ex (.sh a1), .ex (.sh a2), .ex (.sh a3), .ex s140, .no, .no, .no, .no]) (j_irange1 (j_v rfl)) .rf (fun x141 s140 => okq_net_cells_2 a1 a2 a3 x141 s140) (fun _ => rfl)) fun s377 => (js_seq (st1 := fun (s386 : Unit) => [.no, .no, .no, .ex s377, .no, .no, .no, .no]) (js_if (j_bor (j_test (j_bin (j_v rfl) (j_v rfl))) (j_test (j_bin (j_v rfl) (j_v rfl))) .rf) (js_retc (j_bin (j_vx rfl) j_c)) (js_nil (by exact (.no (.no (.no (.eq (.eq (.eq (.eq (.eq .nil))))))))))) fun s386 => (js_retc (j_fn (j_lcons (j_vx rfl) j_lnil)))))))
def q_net_cells : List PyData → R OV
  | [a1, a2, a3] => O.fin (q_net_cells_0 a1 a2 a3)
  | _ => .stk
theorem okq_net_cells : jP m_net_cells q_net_cells := fun ds μ => match ds with
  | [a1, a2, a3] => j_def (qq := q_net_cells_0 a1 a2 a3) (okq_net_cells_0 a1 a2 a3)
  | [] => trivial
  | [_] => trivial
  | [_, _] => trivial
  | _ :: _ :: _ :: _ :: _ => trivial
def b_net_of : Rho → Out :=
  (sCons (sRet (eTupO (lCons (eCall m_net_cells (lCons (eV 0) (lCons (eV 1) (lCons (eV 2) lNil)))) (lCons (eFn (g1 dSorted) (lCons (eCall m_apart_ships (lCons (eV 0) (lCons (eV 1) (lCons (eV 2) lNil)))) lNil)) lNil))))
    sNil)
def m_net_of : List PyData → List SO → Rv := runP 3 b_net_of
def q_net_of_0 (a1 : PyData) (a2 : PyData) (a3 : PyData) : O Unit :=
  O.bind (O.of (R.bind (R.bind (R.bind (R.bind (R.ok (.sh a1)) fun e8 => R.bind (R.bind (R.ok (.sh a2)) fun e6 => R.bind (R.bind (R.ok (.sh a3)) fun e4 => R.bind (R.ok []) fun l5 => .ok (e4 :: l5)) fun l7 => .ok (e6 :: l7)) fun l9 => .ok (e8 :: l9)) fun l10 => q_net_cells (l10.map fz)) fun e23 => R.bind (R.bind (R.bind (R.bind (R.bind (R.bind (R.ok (.sh a1)) fun e15 => R.bind (R.bind (R.ok (.sh a2)) fun e13 => R.bind (R.bind (R.ok (.sh a3)) fun e11 => R.bind (R.ok []) fun l12 => .ok (e11 :: l12)) fun l14 => .ok (e13 :: l14)) fun l16 => .ok (e15 :: l16)) fun l17 => q_apart_ships (l17.map fz)) fun e18 => R.bind (R.ok []) fun l19 => .ok (e18 :: l19)) fun l20 => ofOR ((g1 dSorted) l20)) fun e21 => R.bind (R.ok []) fun l22 => .ok (e21 :: l22)) fun l24 => .ok (e23 :: l24)) fun l25 => szR l25.length (.tup l25))) fun o26 => .ret o26
theorem okq_net_of_0 {μ : List SO} (a1 : PyData) (a2 : PyData) (a3 : PyData) : jS μ b_net_of [.ex (.sh a1), .ex (.sh a2), .ex (.sh a3)] (q_net_of_0 a1 a2 a3) (fun _ : Unit => [.no, .no, .no]) := by
  unfold q_net_of_0 b_net_of
  exact (js_retc (j_tupO (j_lcons (j_call okq_net_cells (j_lcons (j_v rfl) (j_lcons (j_v rfl) (j_lcons (j_v rfl) j_lnil)))) (j_lcons (j_fn (j_lcons (j_call okq_apart_ships (j_lcons (j_v rfl) (j_lcons (j_v rfl) (j_lcons (j_v rfl) j_lnil)))) j_lnil)) j_lnil))))
def q_net_of : List PyData → R OV
  | [a1, a2, a3] => O.fin (q_net_of_0 a1 a2 a3)
  | _ => .stk
theorem okq_net_of : jP m_net_of q_net_of := fun ds μ => match ds with
  | [a1, a2, a3] => j_def (qq := q_net_of_0 a1 a2 a3) (okq_net_of_0 a1 a2 a3)
  | [] => trivial
  | [_] => trivial
  | [_, _] => trivial
  | _ :: _ :: _ :: _ :: _ => trivial
def b_least_net : Rho → Out :=
  (sCons (sRet (eFn (g1 dLen) (lCons (eCall m_net_cells (lCons (eV 0) (lCons (eV 1) (lCons (eV 2) lNil)))) lNil)))
    sNil)
def m_least_net : List PyData → List SO → Rv := runP 3 b_least_net
def q_least_net_0 (a1 : PyData) (a2 : PyData) (a3 : PyData) : O Unit :=
  O.bind (O.of (R.bind (R.bind (R.bind (R.bind (R.ok (.sh a1)) fun e8 => R.bind (R.bind (R.ok (.sh a2)) fun e6 => R.bind (R.bind (R.ok (.sh a3)) fun e4 => R.bind (R.ok []) fun l5 => .ok (e4 :: l5)) fun l7 => .ok (e6 :: l7)) fun l9 => .ok (e8 :: l9)) fun l10 => q_net_cells (l10.map fz)) fun e11 => R.bind (R.ok []) fun l12 => .ok (e11 :: l12)) fun l13 => ofOR ((g1 dLen) l13))) fun o14 => .ret o14
theorem okq_least_net_0 {μ : List SO} (a1 : PyData) (a2 : PyData) (a3 : PyData) : jS μ b_least_net [.ex (.sh a1), .ex (.sh a2), .ex (.sh a3)] (q_least_net_0 a1 a2 a3) (fun _ : Unit => [.no, .no, .no]) := by
  unfold q_least_net_0 b_least_net
  exact (js_retc (j_fn (j_lcons (j_call okq_net_cells (j_lcons (j_v rfl) (j_lcons (j_v rfl) (j_lcons (j_v rfl) j_lnil)))) j_lnil)))
def q_least_net : List PyData → R OV
  | [a1, a2, a3] => O.fin (q_least_net_0 a1 a2 a3)
  | _ => .stk
theorem okq_least_net : jP m_least_net q_least_net := fun ds μ => match ds with
  | [a1, a2, a3] => j_def (qq := q_least_net_0 a1 a2 a3) (okq_least_net_0 a1 a2 a3)
  | [] => trivial
  | [_] => trivial
  | [_, _] => trivial
  | _ :: _ :: _ :: _ :: _ => trivial
def b_is_net_1 : Rho → Out :=
  (sCons (sIf (bNot (eTest (eFn (g1 (dAll fun bs => bs.any id)) (lCons (eLc [5] (iVal (eCall m_cells_of (lCons (eTup (lCons (eV 7) (lCons (eV 8) (lCons (eV 6) (lCons (eV 2) lNil))))) lNil))) (hName 5) tYesR (eBin (gIn false) (eV 5) (eV 4))) lNil)))) (sCons (sRet (cC (.bool false)))
    sNil) sNil)
    sNil)
def b_is_net_2 : Rho → Out :=
  (sCons (sFor [5, 8] (iRange1 (eSub (eV 1) (eMul (eSub (eV 2) (cC (.int 1))) (eFn (g1 dInt) (lCons (eBin (gEq false) (eV 6) (cC (.str "along"))) lNil))))) (hName 8) b_is_net_1)
    sNil)
def b_is_net_3 : Rho → Out :=
  (sCons (sFor [5, 7, 8] (iRange1 (eSub (eV 0) (eMul (eSub (eV 2) (cC (.int 1))) (eFn (g1 dInt) (lCons (eBin (gEq false) (eV 6) (cC (.str "down"))) lNil))))) (hName 7) b_is_net_2)
    sNil)
def b_is_net_4 : Rho → Out :=
  (sCons (sIf (bOr (eTest (eBR (gInP false) (eV 5) 4)) (bOr (bNot (eTest (eChain gLe gLt (cC (.int 0)) (eBin gSub (eV 5) (cC (.int 0))) (eV 0)))) (bNot (eTest (eChain gLe gLt (cC (.int 0)) (eBin gSub (eV 5) (cC (.int 1))) (eV 1)))))) (sCons (sRet (cC (.bool false)))
    sNil) sNil)
    (sCons (sSetIx 4 (cC (.bool true)) (eV 5))
    sNil))
def b_is_net : Rho → Out :=
  (sCons (sSet 4 eDT)
    (sCons (sFor [5] (iVal (eV 3)) (hName 5) b_is_net_4)
    (sCons (sFor [5, 6, 7, 8] (iVal (eTup (lCons (cC (.str "along")) (lCons (cC (.str "down")) lNil)))) (hName 6) b_is_net_3)
    (sCons (sRet (cC (.bool true)))
    sNil))))
def m_is_net : List PyData → List SO → Rv := runP 9 b_is_net
def q_is_net_4 (a1 : PyData) (a2 : PyData) (x31 : PyData) (s30 : OV) : O (OV) :=
  O.bind (O.bind (O.of (R.bind (R.bind (R.bind (R.ok (.sh x31)) fun e54 => ofPR (gInP false (fz e54) (fz s30))) toBR) fun b68 => if b68 = true then .ok true else (R.bind (R.bind (R.bind (R.bind (R.ok (.sh (.int 0))) fun e57 => R.bind (R.bind (R.ok (.sh x31)) fun e55 => R.bind (R.ok (.sh (.int 0))) fun e56 => ofOR (gSub e55 e56)) fun e58 => chR (gLe e57 e58) (R.bind (R.ok (.sh a1)) fun e59 => ofOR (gLt e58 e59))) toBR) fun b60 => .ok (!b60)) fun b67 => if b67 = true then .ok true else (R.bind (R.bind (R.bind (R.ok (.sh (.int 0))) fun e63 => R.bind (R.bind (R.ok (.sh x31)) fun e61 => R.bind (R.ok (.sh (.int 1))) fun e62 => ofOR (gSub e61 e62)) fun e64 => chR (gLe e63 e64) (R.bind (R.ok (.sh a2)) fun e65 => ofOR (gLt e64 e65))) toBR) fun b66 => .ok (!b66))))) fun b72 => if b72 = true then O.bind (O.of (R.ok (.sh (.bool false)))) fun o71 => .ret o71 else .next ()) fun s70 => O.bind (O.of (R.bind (R.ok (.sh (.bool true))) fun o74 => R.bind (R.ok (.sh x31)) fun k75 => setR s30 k75 o74)) fun (v73 : OV) => .next v73
theorem okq_is_net_4 {μ : List SO} (a1 : PyData) (a2 : PyData) (a3 : PyData) (x31 : PyData) (s30 : OV) : jS μ b_is_net_4 [.ex (.sh a1), .ex (.sh a2), .ex (.sh a3), .no, .ex s30, .ex (.sh x31), .no, .no, .no] (q_is_net_4 a1 a2 x31 s30) (fun (s30 : OV) => [.ex (.sh a1), .ex (.sh a2), .ex (.sh a3), .no, .ex s30, .no, .no, .no, .no]) := by
  unfold q_is_net_4 b_is_net_4
  exact (js_seq (st1 := fun (s70 : Unit) => [.ex (.sh a1), .ex (.sh a2), .ex (.sh a3), .no, .ex s30, .ex (.sh x31), .no, .no, .no]) (js_if (j_bor (j_test (j_bR (j_v rfl) rfl rfl)) (j_bor (j_not (j_test (j_chain j_c (j_bin (j_v rfl) j_c) (j_v rfl) .rf))) (j_not (j_test (j_chain j_c (j_bin (j_v rfl) j_c) (j_v rfl) .rf))) .rf) .rf) (js_retc j_c) (js_nil .rf)) fun s70 => (js_seq (st1 := fun (v73 : OV) => [.ex (.sh a1), .ex (.sh a2), .ex (.sh a3), .no, .ex v73, .ex (.sh x31), .no, .no, .no]) (js_setIx j_c rfl rfl (j_v rfl) rfl) fun v73 => (js_nil (by exact (.eq (.eq (.eq (.eq (.eq (.no (.eq (.eq (.eq .nil)))))))))))))
def q_is_net_1 (a3 : PyData) (s77 : OV) (x335 : PyData) (x497 : PyData) (x577 : PyData) (s576 : Unit) : O (Unit) :=
  O.bind (O.bind (O.of (R.bind (R.bind (R.bind (R.bind (R.bind (R.bind (R.bind (R.bind (R.bind (R.bind (R.ok (.sh x497)) fun e610 => R.bind (R.bind (R.ok (.sh x577)) fun e608 => R.bind (R.bind (R.ok (.sh x335)) fun e606 => R.bind (R.bind (R.ok (.sh a3)) fun e604 => R.bind (R.ok []) fun l605 => .ok (e604 :: l605)) fun l607 => .ok (e606 :: l607)) fun l609 => .ok (e608 :: l609)) fun l611 => .ok (e610 :: l611)) fun l612 => szR l612.length (.sh (.tuple (l612.map fz)))) fun e613 => R.bind (R.ok []) fun l614 => .ok (e613 :: l614)) fun l615 => q_cells_of (l615.map fz)) itR) fun z620 => R.bind (lcR (fun x616 => R.bind (R.bind (R.ok (.sh x616)) fun e617 => R.bind (R.ok (.sh (fz s77))) fun e618 => ofOR (gIn false e617 e618)) fun o619 => .ok (some o619)) z620) fun l621 => szR l621.length (.lst l621)) fun e622 => R.bind (R.ok []) fun l623 => .ok (e622 :: l623)) fun l624 => ofOR ((g1 (dAll fun bs => bs.any id)) l624)) toBR) fun b625 => .ok (!b625))) fun b629 => if b629 = true then O.bind (O.of (R.ok (.sh (.bool false)))) fun o628 => .ret o628 else .next ()) fun s627 => .next ()
theorem okq_is_net_1 {μ : List SO} (a1 : PyData) (a2 : PyData) (a3 : PyData) (s77 : OV) (x335 : PyData) (x497 : PyData) (x577 : PyData) (s576 : Unit) : jS μ b_is_net_1 [.ex (.sh a1), .ex (.sh a2), .ex (.sh a3), .no, .fr (fz s77), .no, .ex (.sh x335), .ex (.sh x497), .ex (.sh x577)] (q_is_net_1 a3 s77 x335 x497 x577 s576) (fun (s576 : Unit) => [.ex (.sh a1), .ex (.sh a2), .ex (.sh a3), .no, .fr (fz s77), .no, .ex (.sh x335), .ex (.sh x497), .no]) := by
  unfold q_is_net_1 b_is_net_1
  exact (js_seq (st1 := fun (s627 : Unit) => [.ex (.sh a1), .ex (.sh a2), .ex (.sh a3), .no, .fr (fz s77), .no, .ex (.sh x335), .ex (.sh x497), .no]) (js_if (j_not (j_test (j_fn (j_lcons (j_lc (pc := [.ex (.sh a1), .ex (.sh a2), .ex (.sh a3), .no, .fr (fz s77), .no, .ex (.sh x335), .ex (.sh x497), .ex (.sh x577)]) (j_ival (j_call okq_cells_of (j_lcons (j_tup (j_lcons (j_v rfl) (j_lcons (j_v rfl) (j_lcons (j_v rfl) (j_lcons (j_v rfl) j_lnil))))) j_lnil))) .rf fun x616 => (j_turn1N (j_bin (j_v rfl) (j_vf rfl)) .rf)) j_lnil)))) (js_retc j_c) (js_nil (by exact (.eq (.eq (.eq (.eq (.eq (.eq (.eq (.eq (.no .nil)))))))))))) fun s627 => (js_nil .rf))
def q_is_net_2 (a2 : PyData) (a3 : PyData) (s77 : OV) (x335 : PyData) (x497 : PyData) (s496 : Unit) : O (Unit) :=
  O.bind (O.bind (O.of (R.bind (R.bind (R.ok (.sh a2)) fun e574 => R.bind (R.bind (R.bind (R.ok (.sh a3)) fun e565 => R.bind (R.ok (.sh (.int 1))) fun e566 => ofOR (gSubI e565 e566)) fun e572 => R.bind (R.bind (R.bind (R.bind (R.ok (.sh x335)) fun e567 => R.bind (R.ok (.sh (.str "along"))) fun e568 => ofOR (gEq false e567 e568)) fun e569 => R.bind (R.ok []) fun l570 => .ok (e569 :: l570)) fun l571 => ofOR ((g1 dInt) l571)) fun e573 => ofOR (gMulI e572 e573)) fun e575 => ofOR (gSubI e574 e575)) rng1R)) fun z630 => forO z630 (fun x577 s576 => q_is_net_1 a3 s77 x335 x497 x577 s576) ()) fun s631 => .next ()
theorem okq_is_net_2 {μ : List SO} (a1 : PyData) (a2 : PyData) (a3 : PyData) (s77 : OV) (x335 : PyData) (x497 : PyData) (s496 : Unit) : jS μ b_is_net_2 [.ex (.sh a1), .ex (.sh a2), .ex (.sh a3), .no, .fr (fz s77), .no, .ex (.sh x335), .ex (.sh x497), .no] (q_is_net_2 a2 a3 s77 x335 x497 s496) (fun (s496 : Unit) => [.ex (.sh a1), .ex (.sh a2), .ex (.sh a3), .no, .fr (fz s77), .no, .ex (.sh x335), .no, .no]) := by
  unfold q_is_net_2 b_is_net_2
  exact (js_seq (st1 := fun (s631 : Unit) => [.ex (.sh a1), .ex (.sh a2), .ex (.sh a3), .no, .fr (fz s77), .no, .ex (.sh x335), .ex (.sh x497), .no]) (js_forN (st := fun (s576 : Unit) => [.ex (.sh a1), .ex (.sh a2), .ex (.sh a3), .no, .fr (fz s77), .no, .ex (.sh x335), .ex (.sh x497), .no]) (j_irange1 (j_bin (j_v rfl) (j_bin (j_bin (j_v rfl) j_c) (j_fn (j_lcons (j_bin (j_v rfl) j_c) j_lnil))))) .rf (fun x577 s576 => okq_is_net_1 a1 a2 a3 s77 x335 x497 x577 s576) (fun _ => rfl)) fun s631 => (js_nil (by exact (.eq (.eq (.eq (.eq (.eq (.eq (.eq (.no (.eq .nil))))))))))))
def q_is_net_3 (a1 : PyData) (a2 : PyData) (a3 : PyData) (s77 : OV) (x335 : PyData) (s334 : Unit) : O (Unit) :=
  O.bind (O.bind (O.of (R.bind (R.bind (R.ok (.sh a1)) fun e494 => R.bind (R.bind (R.bind (R.ok (.sh a3)) fun e485 => R.bind (R.ok (.sh (.int 1))) fun e486 => ofOR (gSubI e485 e486)) fun e492 => R.bind (R.bind (R.bind (R.bind (R.ok (.sh x335)) fun e487 => R.bind (R.ok (.sh (.str "down"))) fun e488 => ofOR (gEq false e487 e488)) fun e489 => R.bind (R.ok []) fun l490 => .ok (e489 :: l490)) fun l491 => ofOR ((g1 dInt) l491)) fun e493 => ofOR (gMulI e492 e493)) fun e495 => ofOR (gSubI e494 e495)) rng1R)) fun z632 => forO z632 (fun x497 s496 => q_is_net_2 a2 a3 s77 x335 x497 s496) ()) fun s633 => .next ()
theorem okq_is_net_3 {μ : List SO} (a1 : PyData) (a2 : PyData) (a3 : PyData) (s77 : OV) (x335 : PyData) (s334 : Unit) : jS μ b_is_net_3 [.ex (.sh a1), .ex (.sh a2), .ex (.sh a3), .no, .fr (fz s77), .no, .ex (.sh x335), .no, .no] (q_is_net_3 a1 a2 a3 s77 x335 s334) (fun (s334 : Unit) => [.ex (.sh a1), .ex (.sh a2), .ex (.sh a3), .no, .fr (fz s77), .no, .no, .no, .no]) := by
  unfold q_is_net_3 b_is_net_3
  exact (js_seq (st1 := fun (s633 : Unit) => [.ex (.sh a1), .ex (.sh a2), .ex (.sh a3), .no, .fr (fz s77), .no, .ex (.sh x335), .no, .no]) (js_forN (st := fun (s496 : Unit) => [.ex (.sh a1), .ex (.sh a2), .ex (.sh a3), .no, .fr (fz s77), .no, .ex (.sh x335), .no, .no]) (j_irange1 (j_bin (j_v rfl) (j_bin (j_bin (j_v rfl) j_c) (j_fn (j_lcons (j_bin (j_v rfl) j_c) j_lnil))))) .rf (fun x497 s496 => okq_is_net_2 a1 a2 a3 s77 x335 x497 s496) (fun _ => rfl)) fun s633 => (js_nil (by exact (.eq (.eq (.eq (.eq (.eq (.eq (.no (.eq (.eq .nil))))))))))))
def q_is_net_0 (a1 : PyData) (a2 : PyData) (a3 : PyData) (a4 : PyData) : O Unit :=
  O.bind (O.of (R.ok (.dt []))) fun (v5 : OV) => O.bind (O.bind (O.of (R.bind (R.ok (.sh a4)) itR)) fun z76 => forO z76 (fun x31 s30 => q_is_net_4 a1 a2 x31 s30) v5) fun (s77 : OV) => O.bind (O.bind (O.of (R.bind (R.bind (R.bind (R.ok (.sh (.str "along"))) fun e80 => R.bind (R.bind (R.ok (.sh (.str "down"))) fun e78 => R.bind (R.ok []) fun l79 => .ok (e78 :: l79)) fun l81 => .ok (e80 :: l81)) fun l82 => szR l82.length (.sh (.tuple (l82.map fz)))) itR)) fun z634 => forO z634 (fun x335 s334 => q_is_net_3 a1 a2 a3 s77 x335 s334) ()) fun s635 => O.bind (O.of (R.ok (.sh (.bool true)))) fun o636 => .ret o636
theorem okq_is_net_0 {μ : List SO} (a1 : PyData) (a2 : PyData) (a3 : PyData) (a4 : PyData) : jS μ b_is_net [.ex (.sh a1), .ex (.sh a2), .ex (.sh a3), .ex (.sh a4), .un, .un, .un, .un, .un] (q_is_net_0 a1 a2 a3 a4) (fun _ : Unit => [.no, .no, .no, .no, .no, .no, .no, .no, .no]) := by
  unfold q_is_net_0 b_is_net
  exact (js_seq (st1 := fun (v5 : OV) => [.ex (.sh a1), .ex (.sh a2), .ex (.sh a3), .ex (.sh a4), .ex v5, .un, .un, .un, .un]) (js_set j_dT) fun v5 => (js_seq (st1 := fun (s77 : OV) => [.ex (.sh a1), .ex (.sh a2), .ex (.sh a3), .no, .ex s77, .no, .no, .no, .no]) (js_forN (st := fun (s30 : OV) => [.ex (.sh a1), .ex (.sh a2), .ex (.sh a3), .no, .ex s30, .no, .no, .no, .no]) (j_ival (j_v rfl)) (by exact (.eq (.eq (.eq (.no (.eq (.eq (.no (.no (.no .nil)))))))))) (fun x31 s30 => okq_is_net_4 a1 a2 a3 x31 s30) (fun _ => rfl)) fun s77 => (js_seq (st1 := fun (s635 : Unit) => [.ex (.sh a1), .ex (.sh a2), .ex (.sh a3), .no, .fr (fz s77), .no, .no, .no, .no]) (js_forN (st := fun (s334 : Unit) => [.ex (.sh a1), .ex (.sh a2), .ex (.sh a3), .no, .fr (fz s77), .no, .no, .no, .no]) (j_ival (j_tup (j_lcons j_c (j_lcons j_c j_lnil)))) (by exact (.eq (.eq (.eq (.eq (.fr (.eq (.eq (.eq (.eq .nil)))))))))) (fun x335 s334 => okq_is_net_3 a1 a2 a3 s77 x335 s334) (fun _ => rfl)) fun s635 => (js_retc j_c))))
def q_is_net : List PyData → R OV
  | [a1, a2, a3, a4] => O.fin (q_is_net_0 a1 a2 a3 a4)
  | _ => .stk
theorem okq_is_net : jP m_is_net q_is_net := fun ds μ => match ds with
  | [a1, a2, a3, a4] => j_def (qq := q_is_net_0 a1 a2 a3 a4) (okq_is_net_0 a1 a2 a3 a4)
  | [] => trivial
  | [_] => trivial
  | [_, _] => trivial
  | [_, _, _] => trivial
  | _ :: _ :: _ :: _ :: _ :: _ => trivial
def b_lie_apart_1 : Rho → Out :=
  (sCons (sIf (eTest (eBR (gInP false) (eV 3) 1)) (sCons (sRet (cC (.bool false)))
    sNil) sNil)
    (sCons (sSetIx 1 (cC (.bool true)) (eV 3))
    sNil))
def b_lie_apart_2 : Rho → Out :=
  (sCons (sFor [3] (iVal (eCall m_cells_of (lCons (eV 2) lNil))) (hName 3) b_lie_apart_1)
    sNil)
def b_lie_apart : Rho → Out :=
  (sCons (sSet 1 eDT)
    (sCons (sFor [2, 3] (iVal (eV 0)) (hName 2) b_lie_apart_2)
    (sCons (sRet (cC (.bool true)))
    sNil)))
def m_lie_apart : List PyData → List SO → Rv := runP 4 b_lie_apart
def q_lie_apart_1  (x87 : PyData) (s86 : OV) : O (OV) :=
  O.bind (O.bind (O.of (R.bind (R.bind (R.ok (.sh x87)) fun e96 => ofPR (gInP false (fz e96) (fz s86))) toBR)) fun b100 => if b100 = true then O.bind (O.of (R.ok (.sh (.bool false)))) fun o99 => .ret o99 else .next ()) fun s98 => O.bind (O.of (R.bind (R.ok (.sh (.bool true))) fun o102 => R.bind (R.ok (.sh x87)) fun k103 => setR s86 k103 o102)) fun (v101 : OV) => .next v101
theorem okq_lie_apart_1 {μ : List SO}  (x87 : PyData) (s86 : OV) : jS μ b_lie_apart_1 [.no, .ex s86, .no, .ex (.sh x87)] (q_lie_apart_1 x87 s86) (fun (s86 : OV) => [.no, .ex s86, .no, .no]) := by
  unfold q_lie_apart_1 b_lie_apart_1
  exact (js_seq (st1 := fun (s98 : Unit) => [.no, .ex s86, .no, .ex (.sh x87)]) (js_if (j_test (j_bR (j_v rfl) rfl rfl)) (js_retc j_c) (js_nil .rf)) fun s98 => (js_seq (st1 := fun (v101 : OV) => [.no, .ex v101, .no, .ex (.sh x87)]) (js_setIx j_c rfl rfl (j_v rfl) rfl) fun v101 => (js_nil (by exact (.eq (.eq (.eq (.no .nil))))))))
def q_lie_apart_2  (x39 : PyData) (s38 : OV) : O (OV) :=
  O.bind (O.bind (O.of (R.bind (R.bind (R.bind (R.ok (.sh x39)) fun e73 => R.bind (R.ok []) fun l74 => .ok (e73 :: l74)) fun l75 => q_cells_of (l75.map fz)) itR)) fun z104 => forO z104 (fun x87 s86 => q_lie_apart_1 x87 s86) s38) fun (s105 : OV) => .next s105
theorem okq_lie_apart_2 {μ : List SO}  (x39 : PyData) (s38 : OV) : jS μ b_lie_apart_2 [.no, .ex s38, .ex (.sh x39), .no] (q_lie_apart_2 x39 s38) (fun (s38 : OV) => [.no, .ex s38, .no, .no]) := by
  unfold q_lie_apart_2 b_lie_apart_2
  exact (js_seq (st1 := fun (s105 : OV) => [.no, .ex s105, .no, .no]) (js_forN (st := fun (s86 : OV) => [.no, .ex s86, .no, .no]) (j_ival (j_call okq_cells_of (j_lcons (j_v rfl) j_lnil))) (by exact (.eq (.eq (.no (.eq .nil))))) (fun x87 s86 => okq_lie_apart_1 x87 s86) (fun _ => rfl)) fun s105 => (js_nil .rf))
def q_lie_apart_0 (a1 : PyData) : O Unit :=
  O.bind (O.of (R.ok (.dt []))) fun (v2 : OV) => O.bind (O.bind (O.of (R.bind (R.ok (.sh a1)) itR)) fun z106 => forO z106 (fun x39 s38 => q_lie_apart_2 x39 s38) v2) fun (s107 : OV) => O.bind (O.of (R.ok (.sh (.bool true)))) fun o108 => .ret o108
theorem okq_lie_apart_0 {μ : List SO} (a1 : PyData) : jS μ b_lie_apart [.ex (.sh a1), .un, .un, .un] (q_lie_apart_0 a1) (fun _ : Unit => [.no, .no, .no, .no]) := by
  unfold q_lie_apart_0 b_lie_apart
  exact (js_seq (st1 := fun (v2 : OV) => [.ex (.sh a1), .ex v2, .un, .un]) (js_set j_dT) fun v2 => (js_seq (st1 := fun (s107 : OV) => [.no, .ex s107, .no, .no]) (js_forN (st := fun (s38 : OV) => [.no, .ex s38, .no, .no]) (j_ival (j_v rfl)) (by exact (.no (.eq (.eq (.eq .nil))))) (fun x39 s38 => okq_lie_apart_2 x39 s38) (fun _ => rfl)) fun s107 => (js_retc j_c)))
def q_lie_apart : List PyData → R OV
  | [a1] => O.fin (q_lie_apart_0 a1)
  | _ => .stk
theorem okq_lie_apart : jP m_lie_apart q_lie_apart := fun ds μ => match ds with
  | [a1] => j_def (qq := q_lie_apart_0 a1) (okq_lie_apart_0 a1)
  | [] => trivial
  | _ :: _ :: _ => trivial
def b__law_runs_1 : Rho → Out :=
  (sCons (sExpr (eMut 3 "list" mApp (lCons (eLc [6] (iRange1 (eV 2)) (hName 6) tYesR (eTup (lCons (eBin gAdd (eV 4) (eV 6)) (lCons (eV 5) lNil)))) lNil)))
    sNil)
def b__law_runs_2 : Rho → Out :=
  (sCons (sFor [5, 6] (iRange1 (eV 1)) (hName 5) b__law_runs_1)
    sNil)
def b__law_runs_3 : Rho → Out :=
  (sCons (sExpr (eMut 3 "list" mApp (lCons (eLc [6] (iRange1 (eV 2)) (hName 6) tYesR (eTup (lCons (eV 4) (lCons (eBin gAdd (eV 5) (eV 6)) lNil)))) lNil)))
    sNil)
def b__law_runs_4 : Rho → Out :=
  (sCons (sFor [5, 6] (iRange1 (eBin gAdd (eSub (eV 1) (eV 2)) (cC (.int 1)))) (hName 5) b__law_runs_3)
    sNil)
def b__law_runs : Rho → Out :=
  (sCons (sSet 3 (eLst lNil))
    (sCons (sFor [4, 5, 6] (iRange1 (eV 0)) (hName 4) b__law_runs_4)
    (sCons (sFor [4, 5, 6] (iRange1 (eMul (eBin gAdd (eSub (eV 0) (eV 2)) (cC (.int 1))) (eFn (g1 dInt) (lCons (eBin (gGt) (eV 2) (cC (.int 1))) lNil)))) (hName 4) b__law_runs_2)
    (sCons (sRet (eM 3))
    sNil))))
def m__law_runs : List PyData → List SO → Rv := runP 7 b__law_runs
def q__law_runs_3 (a3 : PyData) (x67 : PyData) (x149 : PyData) (s148 : OV) : O (OV) :=
  O.bind (O.of (R.bind (ownR "list" s148) fun _ => R.bind (R.bind (R.bind (R.bind (R.ok (.sh a3)) rng1R) fun z175 => R.bind (lcR (fun x166 => R.bind (R.bind (R.bind (R.ok (.sh x67)) fun e171 => R.bind (R.bind (R.bind (R.ok (.sh x149)) fun e167 => R.bind (R.ok (.sh x166)) fun e168 => ofOR (gAdd e167 e168)) fun e169 => R.bind (R.ok []) fun l170 => .ok (e169 :: l170)) fun l172 => .ok (e171 :: l172)) fun l173 => szR l173.length (.sh (.tuple (l173.map fz)))) fun o174 => .ok (some o174)) z175) fun l176 => szR l176.length (.lst l176)) fun e177 => R.bind (R.ok []) fun l178 => .ok (e177 :: l178)) fun l180 => R.bind (mutR mApp s148 l180) fun r181 => .ok r181.1)) fun (v179 : OV) => .next v179
theorem okq__law_runs_3 {μ : List SO} (a1 : PyData) (a2 : PyData) (a3 : PyData) (x67 : PyData) (x149 : PyData) (s148 : OV) : jS μ b__law_runs_3 [.ex (.sh a1), .ex (.sh a2), .ex (.sh a3), .ex s148, .ex (.sh x67), .ex (.sh x149), .no] (q__law_runs_3 a3 x67 x149 s148) (fun (s148 : OV) => [.ex (.sh a1), .ex (.sh a2), .ex (.sh a3), .ex s148, .ex (.sh x67), .no, .no]) := by
  unfold q__law_runs_3 b__law_runs_3
  exact (js_seq (st1 := fun (v179 : OV) => [.ex (.sh a1), .ex (.sh a2), .ex (.sh a3), .ex v179, .ex (.sh x67), .ex (.sh x149), .no]) (js_mut rfl (j_lcons (j_lc (pc := [.ex (.sh a1), .ex (.sh a2), .ex (.sh a3), .ex s148, .ex (.sh x67), .ex (.sh x149), .no]) (j_irange1 (j_v rfl)) .rf fun x166 => (j_turn1N (j_tup (j_lcons (j_v rfl) (j_lcons (j_bin (j_v rfl) (j_v rfl)) j_lnil))) .rf)) j_lnil) rfl) fun v179 => (js_nil (by exact (.eq (.eq (.eq (.eq (.eq (.no (.eq .nil))))))))))
def q__law_runs_4 (a2 : PyData) (a3 : PyData) (x67 : PyData) (s66 : OV) : O (OV) :=
  O.bind (O.bind (O.of (R.bind (R.bind (R.bind (R.ok (.sh a2)) fun e126 => R.bind (R.ok (.sh a3)) fun e127 => ofOR (gSubI e126 e127)) fun e128 => R.bind (R.ok (.sh (.int 1))) fun e129 => ofOR (gAdd e128 e129)) rng1R)) fun z182 => forO z182 (fun x149 s148 => q__law_runs_3 a3 x67 x149 s148) s66) fun (s183 : OV) => .next s183
theorem okq__law_runs_4 {μ : List SO} (a1 : PyData) (a2 : PyData) (a3 : PyData) (x67 : PyData) (s66 : OV) : jS μ b__law_runs_4 [.ex (.sh a1), .ex (.sh a2), .ex (.sh a3), .ex s66, .ex (.sh x67), .no, .no] (q__law_runs_4 a2 a3 x67 s66) (fun (s66 : OV) => [.ex (.sh a1), .ex (.sh a2), .ex (.sh a3), .ex s66, .no, .no, .no]) := by
  unfold q__law_runs_4 b__law_runs_4
  exact (js_seq (st1 := fun (s183 : OV) => [.ex (.sh a1), .ex (.sh a2), .ex (.sh a3), .ex s183, .ex (.sh x67), .no, .no]) (js_forN (st := fun (s148 : OV) => [.ex (.sh a1), .ex (.sh a2), .ex (.sh a3), .ex s148, .ex (.sh x67), .no, .no]) (j_irange1 (j_bin (j_bin (j_v rfl) (j_v rfl)) j_c)) .rf (fun x149 s148 => okq__law_runs_3 a1 a2 a3 x67 x149 s148) (fun _ => rfl)) fun s183 => (js_nil (by exact (.eq (.eq (.eq (.eq (.no (.eq (.eq .nil))))))))))
def q__law_runs_1 (a3 : PyData) (x254 : PyData) (x328 : PyData) (s327 : OV) : O (OV) :=
  O.bind (O.of (R.bind (ownR "list" s327) fun _ => R.bind (R.bind (R.bind (R.bind (R.ok (.sh a3)) rng1R) fun z354 => R.bind (lcR (fun x345 => R.bind (R.bind (R.bind (R.bind (R.ok (.sh x254)) fun e346 => R.bind (R.ok (.sh x345)) fun e347 => ofOR (gAdd e346 e347)) fun e350 => R.bind (R.bind (R.ok (.sh x328)) fun e348 => R.bind (R.ok []) fun l349 => .ok (e348 :: l349)) fun l351 => .ok (e350 :: l351)) fun l352 => szR l352.length (.sh (.tuple (l352.map fz)))) fun o353 => .ok (some o353)) z354) fun l355 => szR l355.length (.lst l355)) fun e356 => R.bind (R.ok []) fun l357 => .ok (e356 :: l357)) fun l359 => R.bind (mutR mApp s327 l359) fun r360 => .ok r360.1)) fun (v358 : OV) => .next v358
theorem okq__law_runs_1 {μ : List SO} (a2 : PyData) (a3 : PyData) (x254 : PyData) (x328 : PyData) (s327 : OV) : jS μ b__law_runs_1 [.no, .ex (.sh a2), .ex (.sh a3), .ex s327, .ex (.sh x254), .ex (.sh x328), .no] (q__law_runs_1 a3 x254 x328 s327) (fun (s327 : OV) => [.no, .ex (.sh a2), .ex (.sh a3), .ex s327, .ex (.sh x254), .no, .no]) := by
  unfold q__law_runs_1 b__law_runs_1
  exact (js_seq (st1 := fun (v358 : OV) => [.no, .ex (.sh a2), .ex (.sh a3), .ex v358, .ex (.sh x254), .ex (.sh x328), .no]) (js_mut rfl (j_lcons (j_lc (pc := [.no, .ex (.sh a2), .ex (.sh a3), .ex s327, .ex (.sh x254), .ex (.sh x328), .no]) (j_irange1 (j_v rfl)) .rf fun x345 => (j_turn1N (j_tup (j_lcons (j_bin (j_v rfl) (j_v rfl)) (j_lcons (j_v rfl) j_lnil))) .rf)) j_lnil) rfl) fun v358 => (js_nil (by exact (.eq (.eq (.eq (.eq (.eq (.no (.eq .nil))))))))))
def q__law_runs_2 (a2 : PyData) (a3 : PyData) (x254 : PyData) (s253 : OV) : O (OV) :=
  O.bind (O.bind (O.of (R.bind (R.ok (.sh a2)) rng1R)) fun z361 => forO z361 (fun x328 s327 => q__law_runs_1 a3 x254 x328 s327) s253) fun (s362 : OV) => .next s362
theorem okq__law_runs_2 {μ : List SO} (a2 : PyData) (a3 : PyData) (x254 : PyData) (s253 : OV) : jS μ b__law_runs_2 [.no, .ex (.sh a2), .ex (.sh a3), .ex s253, .ex (.sh x254), .no, .no] (q__law_runs_2 a2 a3 x254 s253) (fun (s253 : OV) => [.no, .ex (.sh a2), .ex (.sh a3), .ex s253, .no, .no, .no]) := by
  unfold q__law_runs_2 b__law_runs_2
  exact (js_seq (st1 := fun (s362 : OV) => [.no, .ex (.sh a2), .ex (.sh a3), .ex s362, .ex (.sh x254), .no, .no]) (js_forN (st := fun (s327 : OV) => [.no, .ex (.sh a2), .ex (.sh a3), .ex s327, .ex (.sh x254), .no, .no]) (j_irange1 (j_v rfl)) .rf (fun x328 s327 => okq__law_runs_1 a2 a3 x254 x328 s327) (fun _ => rfl)) fun s362 => (js_nil (by exact (.eq (.eq (.eq (.eq (.no (.eq (.eq .nil))))))))))
def q__law_runs_0 (a1 : PyData) (a2 : PyData) (a3 : PyData) : O Unit :=
  O.bind (O.of (R.bind (R.ok []) fun l4 => szR l4.length (.lst l4))) fun (v5 : OV) => O.bind (O.bind (O.of (R.bind (R.ok (.sh a1)) rng1R)) fun z184 => forO z184 (fun x67 s66 => q__law_runs_4 a2 a3 x67 s66) v5) fun (s185 : OV) => O.bind (O.bind (O.of (R.bind (R.bind (R.bind (R.bind (R.ok (.sh a1)) fun e186 => R.bind (R.ok (.sh a3)) fun e187 => ofOR (gSubI e186 e187)) fun e188 => R.bind (R.ok (.sh (.int 1))) fun e189 => ofOR (gAdd e188 e189)) fun e195 => R.bind (R.bind (R.bind (R.bind (R.ok (.sh a3)) fun e190 => R.bind (R.ok (.sh (.int 1))) fun e191 => ofOR (gGt e190 e191)) fun e192 => R.bind (R.ok []) fun l193 => .ok (e192 :: l193)) fun l194 => ofOR ((g1 dInt) l194)) fun e196 => ofOR (gMulI e195 e196)) rng1R)) fun z363 => forO z363 (fun x254 s253 => q__law_runs_2 a2 a3 x254 s253) s185) fun (s364 : OV) => O.bind (O.of (R.ok s364)) fun o365 => .ret o365
theorem okq__law_runs_0 {μ : List SO} (a1 : PyData) (a2 : PyData) (a3 : PyData) : jS μ b__law_runs [.ex (.sh a1), .ex (.sh a2), .ex (.sh a3), .un, .un, .un, .un] (q__law_runs_0 a1 a2 a3) (fun _ : Unit => [.no, .no, .no, .no, .no, .no, .no]) := by
  unfold q__law_runs_0 b__law_runs
  exact (js_seq (st1 := fun (v5 : OV) => [.ex (.sh a1), .ex (.sh a2), .ex (.sh a3), .ex v5, .un, .un, .un]) (js_set (j_lst j_lnil)) fun v5 => (js_seq (st1 := fun (s185 : OV) => [.ex (.sh a1), .ex (.sh a2), .ex (.sh a3), .ex s185, .no, .no, .no]) (js_forN (st := fun (s66 : OV) => [.ex (.sh a1), .ex (.sh a2), .ex (.sh a3), .ex s66, .no, .no, .no]) (j_irange1 (j_v rfl)) .rf (fun x67 s66 => okq__law_runs_4 a1 a2 a3 x67 s66) (fun _ => rfl)) fun s185 => (js_seq (st1 := fun (s364 : OV) => [.no, .ex (.sh a2), .ex (.sh a3), .ex s364, .no, .no, .no]) (js_forN (st := fun (s253 : OV) => [.no, .ex (.sh a2), .ex (.sh a3), .ex s253, .no, .no, .no]) (j_irange1 (j_bin (j_bin (j_bin (j_v rfl) (j_v rfl)) j_c) (j_fn (j_lcons (j_bin (j_v rfl) j_c) j_lnil)))) (by exact (.no (.eq (.eq (.eq (.eq (.eq (.eq .nil)))))))) (fun x254 s253 => okq__law_runs_2 a2 a3 x254 s253) (fun _ => rfl)) fun s364 => (js_retc (j_m rfl)))))
def q__law_runs : List PyData → R OV
  | [a1, a2, a3] => O.fin (q__law_runs_0 a1 a2 a3)
  | _ => .stk
theorem okq__law_runs : jP m__law_runs q__law_runs := fun ds μ => match ds with
  | [a1, a2, a3] => j_def (qq := q__law_runs_0 a1 a2 a3) (okq__law_runs_0 a1 a2 a3)
  | [] => trivial
  | [_] => trivial
  | [_, _] => trivial
  | _ :: _ :: _ :: _ :: _ => trivial
def b__law_is_net_1 : Rho → Out :=
  (sCons (sIf (eTest (eBin (gEq false) (eLc [6] (iVal (eV 5)) (hName 6) (eTest (eBin (gIn false) (eV 6) (eV 4))) (eV 6)) (eLst lNil))) (sCons (sRet (cC (.bool false)))
    sNil) sNil)
    sNil)
def b__law_is_net : Rho → Out :=
  (sCons (sSet 4 (eFn (g1 dDict2) (lCons (eLc [6] (iVal (eV 3)) (hName 6) tYesR (eTup (lCons (eV 6) (lCons (cC (.bool true)) lNil)))) lNil)))
    (sCons (sIf (eTest (eBin (gEq true) (eFn (g1 dLen) (lCons (eV 4) lNil)) (eFn (g1 dLen) (lCons (eV 3) lNil)))) (sCons (sRet (cC (.bool false)))
    sNil) sNil)
    (sCons (sIf (eTest (eBin (gEq true) (eLc [6] (iVal (eV 3)) (hName 6) (bNot (bAnd (eTest (eChain gLe gLt (cC (.int 0)) (eBin gSub (eV 6) (cC (.int 0))) (eV 0))) (eTest (eChain gLe gLt (cC (.int 0)) (eBin gSub (eV 6) (cC (.int 1))) (eV 1))))) (eV 6)) (eLst lNil))) (sCons (sRet (cC (.bool false)))
    sNil) sNil)
    (sCons (sFor [5, 6] (iVal (eCall m__law_runs (lCons (eV 0) (lCons (eV 1) (lCons (eV 2) lNil))))) (hName 5) b__law_is_net_1)
    (sCons (sRet (cC (.bool true)))
    sNil)))))
def m__law_is_net : List PyData → List SO → Rv := runP 7 b__law_is_net
def q__law_is_net_1 (v17 : OV) (x62 : PyData) (s61 : Unit) : O (Unit) :=
  O.bind (O.bind (O.of (R.bind (R.bind (R.bind (R.bind (R.ok (.sh x62)) itR) fun z82 => R.bind (lcR (fun x77 => R.bind (R.bind (R.bind (R.ok (.sh x77)) fun e78 => R.bind (R.ok (.sh (fz v17))) fun e79 => ofOR (gIn false e78 e79)) toBR) fun b81 => if b81 = true then R.bind (R.ok (.sh x77)) fun o80 => .ok (some o80) else .ok none) z82) fun l83 => szR l83.length (.lst l83)) fun e85 => R.bind (R.bind (R.ok []) fun l84 => szR l84.length (.lst l84)) fun e86 => ofOR (gEq false e85 e86)) toBR)) fun b90 => if b90 = true then O.bind (O.of (R.ok (.sh (.bool false)))) fun o89 => .ret o89 else .next ()) fun s88 => .next ()
theorem okq__law_is_net_1 {μ : List SO} (v17 : OV) (x62 : PyData) (s61 : Unit) : jS μ b__law_is_net_1 [.no, .no, .no, .no, .ex (.sh (fz v17)), .ex (.sh x62), .no] (q__law_is_net_1 v17 x62 s61) (fun (s61 : Unit) => [.no, .no, .no, .no, .ex (.sh (fz v17)), .no, .no]) := by
  unfold q__law_is_net_1 b__law_is_net_1
  exact (js_seq (st1 := fun (s88 : Unit) => [.no, .no, .no, .no, .ex (.sh (fz v17)), .no, .no]) (js_if (j_test (j_bin (j_lc (pc := [.no, .no, .no, .no, .ex (.sh (fz v17)), .ex (.sh x62), .no]) (j_ival (j_v rfl)) .rf fun x77 => (j_turnN (j_test (j_bin (j_v rfl) (j_v rfl))) (j_v rfl) .rf .rf)) (j_lst j_lnil))) (js_retc j_c) (js_nil (by exact (.eq (.eq (.eq (.eq (.eq (.no (.eq .nil)))))))))) fun s88 => (js_nil .rf))
def q__law_is_net_0 (a1 : PyData) (a2 : PyData) (a3 : PyData) (a4 : PyData) : O Unit :=
  O.bind (O.of (R.bind (R.bind (R.bind (R.bind (R.ok (.sh a4)) itR) fun z12 => R.bind (lcR (fun x5 => R.bind (R.bind (R.bind (R.ok (.sh x5)) fun e8 => R.bind (R.bind (R.ok (.sh (.bool true))) fun e6 => R.bind (R.ok []) fun l7 => .ok (e6 :: l7)) fun l9 => .ok (e8 :: l9)) fun l10 => szR l10.length (.sh (.tuple (l10.map fz)))) fun o11 => .ok (some o11)) z12) fun l13 => szR l13.length (.lst l13)) fun e14 => R.bind (R.ok []) fun l15 => .ok (e14 :: l15)) fun l16 => ofOR ((g1 dDict2) l16))) fun (v17 : OV) => O.bind (O.bind (O.of (R.bind (R.bind (R.bind (R.bind (R.ok (.sh (fz v17))) fun e18 => R.bind (R.ok []) fun l19 => .ok (e18 :: l19)) fun l20 => ofOR ((g1 dLen) l20)) fun e24 => R.bind (R.bind (R.bind (R.ok (.sh a4)) fun e21 => R.bind (R.ok []) fun l22 => .ok (e21 :: l22)) fun l23 => ofOR ((g1 dLen) l23)) fun e25 => ofOR (gEq true e24 e25)) toBR)) fun b29 => if b29 = true then O.bind (O.of (R.ok (.sh (.bool false)))) fun o28 => .ret o28 else .next ()) fun s27 => O.bind (O.bind (O.of (R.bind (R.bind (R.bind (R.bind (R.ok (.sh a4)) itR) fun z45 => R.bind (lcR (fun x30 => R.bind (R.bind (R.bind (R.bind (R.bind (R.ok (.sh (.int 0))) fun e33 => R.bind (R.bind (R.ok (.sh x30)) fun e31 => R.bind (R.ok (.sh (.int 0))) fun e32 => ofOR (gSub e31 e32)) fun e34 => chR (gLe e33 e34) (R.bind (R.ok (.sh a1)) fun e35 => ofOR (gLt e34 e35))) toBR) fun b41 => if b41 = true then (R.bind (R.bind (R.ok (.sh (.int 0))) fun e38 => R.bind (R.bind (R.ok (.sh x30)) fun e36 => R.bind (R.ok (.sh (.int 1))) fun e37 => ofOR (gSub e36 e37)) fun e39 => chR (gLe e38 e39) (R.bind (R.ok (.sh a2)) fun e40 => ofOR (gLt e39 e40))) toBR) else .ok false) fun b42 => .ok (!b42)) fun b44 => if b44 = true then R.bind (R.ok (.sh x30)) fun o43 => .ok (some o43) else .ok none) z45) fun l46 => szR l46.length (.lst l46)) fun e48 => R.bind (R.bind (R.ok []) fun l47 => szR l47.length (.lst l47)) fun e49 => ofOR (gEq true e48 e49)) toBR)) fun b53 => if b53 = true then O.bind (O.of (R.ok (.sh (.bool false)))) fun o52 => .ret o52 else .next ()) fun s51 => O.bind (O.bind (O.of (R.bind (R.bind (R.bind (R.ok (.sh a1)) fun e58 => R.bind (R.bind (R.ok (.sh a2)) fun e56 => R.bind (R.bind (R.ok (.sh a3)) fun e54 => R.bind (R.ok []) fun l55 => .ok (e54 :: l55)) fun l57 => .ok (e56 :: l57)) fun l59 => .ok (e58 :: l59)) fun l60 => q__law_runs (l60.map fz)) itR)) fun z91 => forO z91 (fun x62 s61 => q__law_is_net_1 v17 x62 s61) ()) fun s92 => O.bind (O.of (R.ok (.sh (.bool true)))) fun o93 => .ret o93
theorem okq__law_is_net_0 {μ : List SO} (a1 : PyData) (a2 : PyData) (a3 : PyData) (a4 : PyData) : jS μ b__law_is_net [.ex (.sh a1), .ex (.sh a2), .ex (.sh a3), .ex (.sh a4), .un, .un, .un] (q__law_is_net_0 a1 a2 a3 a4) (fun _ : Unit => [.no, .no, .no, .no, .no, .no, .no]) := by
  unfold q__law_is_net_0 b__law_is_net
  exact (js_seq (st1 := fun (v17 : OV) => [.ex (.sh a1), .ex (.sh a2), .ex (.sh a3), .ex (.sh a4), .ex v17, .un, .no]) (js_set (j_fn (j_lcons (j_lc (pc := [.ex (.sh a1), .ex (.sh a2), .ex (.sh a3), .ex (.sh a4), .un, .un, .no]) (j_ival (j_v rfl)) .rf fun x5 => (j_turn1N (j_tup (j_lcons (j_v rfl) (j_lcons j_c j_lnil))) .rf)) j_lnil))) fun v17 => (js_seq (st1 := fun (s27 : Unit) => [.ex (.sh a1), .ex (.sh a2), .ex (.sh a3), .ex (.sh a4), .ex (.sh (fz v17)), .no, .no]) (js_if (j_test (j_bin (j_fn (j_lcons (j_vx rfl) j_lnil)) (j_fn (j_lcons (j_v rfl) j_lnil)))) (js_retc j_c) (js_nil (by exact (.eq (.eq (.eq (.eq (.eq (.no (.eq .nil)))))))))) fun s27 => (js_seq (st1 := fun (s51 : Unit) => [.ex (.sh a1), .ex (.sh a2), .ex (.sh a3), .no, .ex (.sh (fz v17)), .no, .no]) (js_if (j_test (j_bin (j_lc (pc := [.ex (.sh a1), .ex (.sh a2), .ex (.sh a3), .ex (.sh a4), .ex (.sh (fz v17)), .no, .no]) (j_ival (j_v rfl)) .rf fun x30 => (j_turnN (j_not (j_band (j_test (j_chain j_c (j_bin (j_v rfl) j_c) (j_v rfl) .rf)) (j_test (j_chain j_c (j_bin (j_v rfl) j_c) (j_v rfl) .rf)) .rf)) (j_v rfl) .rf .rf)) (j_lst j_lnil))) (js_retc j_c) (js_nil (by exact (.eq (.eq (.eq (.no (.eq (.eq (.eq .nil)))))))))) fun s51 => (js_seq (st1 := fun (s92 : Unit) => [.no, .no, .no, .no, .ex (.sh (fz v17)), .no, .no]) (js_forN (st := fun (s61 : Unit) => [.no, .no, .no, .no, .ex (.sh (fz v17)), .no, .no]) (j_ival (j_call okq__law_runs (j_lcons (j_v rfl) (j_lcons (j_v rfl) (j_lcons (j_v rfl) j_lnil))))) (by exact (.no (.no (.no (.eq (.eq (.eq (.eq .nil)))))))) (fun x62 s61 => okq__law_is_net_1 v17 x62 s61) (fun _ => rfl)) fun s92 => (js_retc j_c)))))
def q__law_is_net : List PyData → R OV
  | [a1, a2, a3, a4] => O.fin (q__law_is_net_0 a1 a2 a3 a4)
  | _ => .stk
theorem okq__law_is_net : jP m__law_is_net q__law_is_net := fun ds μ => match ds with
  | [a1, a2, a3, a4] => j_def (qq := q__law_is_net_0 a1 a2 a3 a4) (okq__law_is_net_0 a1 a2 a3 a4)
  | [] => trivial
  | [_] => trivial
  | [_, _] => trivial
  | [_, _, _] => trivial
  | _ :: _ :: _ :: _ :: _ :: _ => trivial
def b__law_apart_1 : Rho → Out :=
  (sCons (sIf (eTest (eBR (gInP false) (eV 3) 1)) (sCons (sRet (cC (.bool false)))
    sNil) sNil)
    (sCons (sSetIx 1 (cC (.bool true)) (eV 3))
    sNil))
def b__law_apart_2 : Rho → Out :=
  (sCons (sFor [3] (iVal (eCall m__law_cells (lCons (eV 2) lNil))) (hName 3) b__law_apart_1)
    sNil)
def b__law_apart : Rho → Out :=
  (sCons (sSet 1 eDT)
    (sCons (sFor [2, 3] (iVal (eV 0)) (hName 2) b__law_apart_2)
    (sCons (sRet (cC (.bool true)))
    sNil)))
def m__law_apart : List PyData → List SO → Rv := runP 4 b__law_apart
def q__law_apart_1  (x87 : PyData) (s86 : OV) : O (OV) :=
  O.bind (O.bind (O.of (R.bind (R.bind (R.ok (.sh x87)) fun e96 => ofPR (gInP false (fz e96) (fz s86))) toBR)) fun b100 => if b100 = true then O.bind (O.of (R.ok (.sh (.bool false)))) fun o99 => .ret o99 else .next ()) fun s98 => O.bind (O.of (R.bind (R.ok (.sh (.bool true))) fun o102 => R.bind (R.ok (.sh x87)) fun k103 => setR s86 k103 o102)) fun (v101 : OV) => .next v101
theorem okq__law_apart_1 {μ : List SO}  (x87 : PyData) (s86 : OV) : jS μ b__law_apart_1 [.no, .ex s86, .no, .ex (.sh x87)] (q__law_apart_1 x87 s86) (fun (s86 : OV) => [.no, .ex s86, .no, .no]) := by
  unfold q__law_apart_1 b__law_apart_1
  exact (js_seq (st1 := fun (s98 : Unit) => [.no, .ex s86, .no, .ex (.sh x87)]) (js_if (j_test (j_bR (j_v rfl) rfl rfl)) (js_retc j_c) (js_nil .rf)) fun s98 => (js_seq (st1 := fun (v101 : OV) => [.no, .ex v101, .no, .ex (.sh x87)]) (js_setIx j_c rfl rfl (j_v rfl) rfl) fun v101 => (js_nil (by exact (.eq (.eq (.eq (.no .nil))))))))
def q__law_apart_2  (x39 : PyData) (s38 : OV) : O (OV) :=
  O.bind (O.bind (O.of (R.bind (R.bind (R.bind (R.ok (.sh x39)) fun e73 => R.bind (R.ok []) fun l74 => .ok (e73 :: l74)) fun l75 => q__law_cells (l75.map fz)) itR)) fun z104 => forO z104 (fun x87 s86 => q__law_apart_1 x87 s86) s38) fun (s105 : OV) => .next s105
theorem okq__law_apart_2 {μ : List SO}  (x39 : PyData) (s38 : OV) : jS μ b__law_apart_2 [.no, .ex s38, .ex (.sh x39), .no] (q__law_apart_2 x39 s38) (fun (s38 : OV) => [.no, .ex s38, .no, .no]) := by
  unfold q__law_apart_2 b__law_apart_2
  exact (js_seq (st1 := fun (s105 : OV) => [.no, .ex s105, .no, .no]) (js_forN (st := fun (s86 : OV) => [.no, .ex s86, .no, .no]) (j_ival (j_call okq__law_cells (j_lcons (j_v rfl) j_lnil))) (by exact (.eq (.eq (.no (.eq .nil))))) (fun x87 s86 => okq__law_apart_1 x87 s86) (fun _ => rfl)) fun s105 => (js_nil .rf))
def q__law_apart_0 (a1 : PyData) : O Unit :=
  O.bind (O.of (R.ok (.dt []))) fun (v2 : OV) => O.bind (O.bind (O.of (R.bind (R.ok (.sh a1)) itR)) fun z106 => forO z106 (fun x39 s38 => q__law_apart_2 x39 s38) v2) fun (s107 : OV) => O.bind (O.of (R.ok (.sh (.bool true)))) fun o108 => .ret o108
theorem okq__law_apart_0 {μ : List SO} (a1 : PyData) : jS μ b__law_apart [.ex (.sh a1), .un, .un, .un] (q__law_apart_0 a1) (fun _ : Unit => [.no, .no, .no, .no]) := by
  unfold q__law_apart_0 b__law_apart
  exact (js_seq (st1 := fun (v2 : OV) => [.ex (.sh a1), .ex v2, .un, .un]) (js_set j_dT) fun v2 => (js_seq (st1 := fun (s107 : OV) => [.no, .ex s107, .no, .no]) (js_forN (st := fun (s38 : OV) => [.no, .ex s38, .no, .no]) (j_ival (j_v rfl)) (by exact (.no (.eq (.eq (.eq .nil))))) (fun x39 s38 => okq__law_apart_2 x39 s38) (fun _ => rfl)) fun s107 => (js_retc j_c)))
def q__law_apart : List PyData → R OV
  | [a1] => O.fin (q__law_apart_0 a1)
  | _ => .stk
theorem okq__law_apart : jP m__law_apart q__law_apart := fun ds μ => match ds with
  | [a1] => j_def (qq := q__law_apart_0 a1) (okq__law_apart_0 a1)
  | [] => trivial
  | _ :: _ :: _ => trivial
def b__law_sizes : Rho → Out :=
  (sCons (sAsg (hTup 6 (hCons (hName 1) (hCons (hName 2) (hCons (hName 3) (hCons (hName 4) (hCons (hName 5) (hCons (hName 6) hNil))))))) (eCall m__law_drawn (lCons (eV 0) (lCons (eLst (lCons (cC (.int 6)) (lCons (cC (.int 60)) (lCons (cC (.int 60)) (lCons (cC (.int 60)) (lCons (cC (.int 6)) (lCons (cC (.int 12)) lNil))))))) lNil))))
    (sCons (sIf (eTest (eBin (gLt) (eV 1) (cC (.int 2)))) (sCons (sRet (eTup (lCons (eBin gAdd (cC (.int 1)) (eMod (eV 2) (cC (.int 12)))) (lCons (eBin gAdd (cC (.int 1)) (eMod (eV 3) (cC (.int 12)))) (lCons (eBin gAdd (cC (.int 1)) (eMod (eV 4) (cC (.int 6)))) lNil)))))
    sNil) sNil)
    (sCons (sIf (eTest (eBin (gEq false) (eV 1) (cC (.int 2)))) (sCons (sRet (eTup (lCons (eBin gAdd (cC (.int 1)) (eV 2)) (lCons (eBin gAdd (cC (.int 1)) (eV 3)) (lCons (eBin gAdd (cC (.int 1)) (eV 4)) lNil)))))
    sNil) sNil)
    (sCons (sSet 4 (eBin gAdd (cC (.int 1)) (eMod (eV 4) (cC (.int 15)))))
    (sCons (sIf (eTest (eBin (gEq false) (eV 1) (cC (.int 3)))) (sCons (sRet (eTup (lCons (eBin gAdd (cC (.int 1)) (eV 2)) (lCons (eBin gAdd (cC (.int 1)) (eV 3)) (lCons (eV 4) lNil)))))
    sNil) sNil)
    (sCons (sSet 7 (eFn (gMax min2 minI) (lCons (cC (.int 60)) (lCons (eBin gAdd (eMul (eV 4) (eBin gAdd (cC (.int 1)) (eMod (eV 5) (cC (.int 3))))) (eMod (eV 2) (eV 4))) lNil))))
    (sCons (sSet 8 (eFn (gMax min2 minI) (lCons (cC (.int 60)) (lCons (eBin gAdd (eMul (eV 4) (eBin gAdd (cC (.int 1)) (eMod (eV 6) (cC (.int 3))))) (eMod (eV 3) (eV 4))) lNil))))
    (sCons (sRet (eTup (lCons (eV 7) (lCons (eBin gSub (eLst (lCons (eV 8) (lCons (eBin gAdd (cC (.int 1)) (eMod (eV 3) (eV 4))) lNil))) (eSub (eV 1) (cC (.int 4)))) (lCons (eV 4) lNil)))))
    sNil))))))))
def m__law_sizes : List PyData → List SO → Rv := runP 9 b__law_sizes
def q__law_sizes_0 (a1 : PyData) : O Unit :=
  O.bind (O.of (R.bind (R.bind (R.bind (R.ok (.sh a1)) fun e17 => R.bind (R.bind (R.bind (R.bind (R.ok (.sh (.int 6))) fun e12 => R.bind (R.bind (R.ok (.sh (.int 60))) fun e10 => R.bind (R.bind (R.ok (.sh (.int 60))) fun e8 => R.bind (R.bind (R.ok (.sh (.int 60))) fun e6 => R.bind (R.bind (R.ok (.sh (.int 6))) fun e4 => R.bind (R.bind (R.ok (.sh (.int 12))) fun e2 => R.bind (R.ok []) fun l3 => .ok (e2 :: l3)) fun l5 => .ok (e4 :: l5)) fun l7 => .ok (e6 :: l7)) fun l9 => .ok (e8 :: l9)) fun l11 => .ok (e10 :: l11)) fun l13 => .ok (e12 :: l13)) fun l14 => szR l14.length (.lst l14)) fun e15 => R.bind (R.ok []) fun l16 => .ok (e15 :: l16)) fun l18 => .ok (e17 :: l18)) fun l19 => q__law_drawn (l19.map fz)) fun o21 => unT 6 (fz o21))) fun t20 => O.bind (O.bind (O.of (R.bind (R.bind (R.ok (.sh (nd t20 0))) fun e22 => R.bind (R.ok (.sh (.int 2))) fun e23 => ofOR (gLt e22 e23)) toBR)) fun b65 => if b65 = true then O.bind (O.of (R.bind (R.bind (R.bind (R.ok (.sh (.int 1))) fun e47 => R.bind (R.bind (R.ok (.sh (nd t20 1))) fun e45 => R.bind (R.ok (.sh (.int 12))) fun e46 => ofOR (gModI e45 e46)) fun e48 => ofOR (gAdd e47 e48)) fun e61 => R.bind (R.bind (R.bind (R.ok (.sh (.int 1))) fun e51 => R.bind (R.bind (R.ok (.sh (nd t20 2))) fun e49 => R.bind (R.ok (.sh (.int 12))) fun e50 => ofOR (gModI e49 e50)) fun e52 => ofOR (gAdd e51 e52)) fun e59 => R.bind (R.bind (R.bind (R.ok (.sh (.int 1))) fun e55 => R.bind (R.bind (R.ok (.sh (nd t20 3))) fun e53 => R.bind (R.ok (.sh (.int 6))) fun e54 => ofOR (gModI e53 e54)) fun e56 => ofOR (gAdd e55 e56)) fun e57 => R.bind (R.ok []) fun l58 => .ok (e57 :: l58)) fun l60 => .ok (e59 :: l60)) fun l62 => .ok (e61 :: l62)) fun l63 => szR l63.length (.sh (.tuple (l63.map fz))))) fun o64 => .ret o64 else .next ()) fun s44 => O.bind (O.bind (O.of (R.bind (R.bind (R.ok (.sh (nd t20 0))) fun e66 => R.bind (R.ok (.sh (.int 2))) fun e67 => ofOR (gEq false e66 e67)) toBR)) fun b97 => if b97 = true then O.bind (O.of (R.bind (R.bind (R.bind (R.ok (.sh (.int 1))) fun e83 => R.bind (R.ok (.sh (nd t20 1))) fun e84 => ofOR (gAdd e83 e84)) fun e93 => R.bind (R.bind (R.bind (R.ok (.sh (.int 1))) fun e85 => R.bind (R.ok (.sh (nd t20 2))) fun e86 => ofOR (gAdd e85 e86)) fun e91 => R.bind (R.bind (R.bind (R.ok (.sh (.int 1))) fun e87 => R.bind (R.ok (.sh (nd t20 3))) fun e88 => ofOR (gAdd e87 e88)) fun e89 => R.bind (R.ok []) fun l90 => .ok (e89 :: l90)) fun l92 => .ok (e91 :: l92)) fun l94 => .ok (e93 :: l94)) fun l95 => szR l95.length (.sh (.tuple (l95.map fz))))) fun o96 => .ret o96 else .next ()) fun s82 => O.bind (O.of (R.bind (R.ok (.sh (.int 1))) fun e100 => R.bind (R.bind (R.ok (.sh (nd t20 3))) fun e98 => R.bind (R.ok (.sh (.int 15))) fun e99 => ofOR (gModI e98 e99)) fun e101 => ofOR (gAdd e100 e101))) fun (v102 : OV) => O.bind (O.bind (O.of (R.bind (R.bind (R.ok (.sh (nd t20 0))) fun e103 => R.bind (R.ok (.sh (.int 3))) fun e104 => ofOR (gEq false e103 e104)) toBR)) fun b130 => if b130 = true then O.bind (O.of (R.bind (R.bind (R.bind (R.ok (.sh (.int 1))) fun e118 => R.bind (R.ok (.sh (nd t20 1))) fun e119 => ofOR (gAdd e118 e119)) fun e126 => R.bind (R.bind (R.bind (R.ok (.sh (.int 1))) fun e120 => R.bind (R.ok (.sh (nd t20 2))) fun e121 => ofOR (gAdd e120 e121)) fun e124 => R.bind (R.bind (R.ok (.sh (fz v102))) fun e122 => R.bind (R.ok []) fun l123 => .ok (e122 :: l123)) fun l125 => .ok (e124 :: l125)) fun l127 => .ok (e126 :: l127)) fun l128 => szR l128.length (.sh (.tuple (l128.map fz))))) fun o129 => .ret o129 else .next ()) fun s117 => O.bind (O.of (R.bind (R.bind (R.ok (.sh (.int 60))) fun e143 => R.bind (R.bind (R.bind (R.bind (R.ok (.sh (fz v102))) fun e135 => R.bind (R.bind (R.ok (.sh (.int 1))) fun e133 => R.bind (R.bind (R.ok (.sh (nd t20 4))) fun e131 => R.bind (R.ok (.sh (.int 3))) fun e132 => ofOR (gModI e131 e132)) fun e134 => ofOR (gAdd e133 e134)) fun e136 => ofOR (gMulI e135 e136)) fun e139 => R.bind (R.bind (R.ok (.sh (nd t20 1))) fun e137 => R.bind (R.ok (.sh (fz v102))) fun e138 => ofOR (gModI e137 e138)) fun e140 => ofOR (gAdd e139 e140)) fun e141 => R.bind (R.ok []) fun l142 => .ok (e141 :: l142)) fun l144 => .ok (e143 :: l144)) fun l145 => ofOR ((gMax min2 minI) l145))) fun (v146 : OV) => O.bind (O.of (R.bind (R.bind (R.ok (.sh (.int 60))) fun e159 => R.bind (R.bind (R.bind (R.bind (R.ok (.sh (fz v102))) fun e151 => R.bind (R.bind (R.ok (.sh (.int 1))) fun e149 => R.bind (R.bind (R.ok (.sh (nd t20 5))) fun e147 => R.bind (R.ok (.sh (.int 3))) fun e148 => ofOR (gModI e147 e148)) fun e150 => ofOR (gAdd e149 e150)) fun e152 => ofOR (gMulI e151 e152)) fun e155 => R.bind (R.bind (R.ok (.sh (nd t20 2))) fun e153 => R.bind (R.ok (.sh (fz v102))) fun e154 => ofOR (gModI e153 e154)) fun e156 => ofOR (gAdd e155 e156)) fun e157 => R.bind (R.ok []) fun l158 => .ok (e157 :: l158)) fun l160 => .ok (e159 :: l160)) fun l161 => ofOR ((gMax min2 minI) l161))) fun (v162 : OV) => O.bind (O.of (R.bind (R.bind (R.ok (.sh (fz v146))) fun e180 => R.bind (R.bind (R.bind (R.bind (R.bind (R.ok (.sh (fz v162))) fun e169 => R.bind (R.bind (R.bind (R.ok (.sh (.int 1))) fun e165 => R.bind (R.bind (R.ok (.sh (nd t20 2))) fun e163 => R.bind (R.ok (.sh (fz v102))) fun e164 => ofOR (gModI e163 e164)) fun e166 => ofOR (gAdd e165 e166)) fun e167 => R.bind (R.ok []) fun l168 => .ok (e167 :: l168)) fun l170 => .ok (e169 :: l170)) fun l171 => szR l171.length (.lst l171)) fun e174 => R.bind (R.bind (R.ok (.sh (nd t20 0))) fun e172 => R.bind (R.ok (.sh (.int 4))) fun e173 => ofOR (gSubI e172 e173)) fun e175 => ofOR (gSub e174 e175)) fun e178 => R.bind (R.bind (R.ok (.sh (fz v102))) fun e176 => R.bind (R.ok []) fun l177 => .ok (e176 :: l177)) fun l179 => .ok (e178 :: l179)) fun l181 => .ok (e180 :: l181)) fun l182 => szR l182.length (.sh (.tuple (l182.map fz))))) fun o183 => .ret o183
theorem okq__law_sizes_0 {μ : List SO} (a1 : PyData) : jS μ b__law_sizes [.ex (.sh a1), .un, .un, .un, .un, .un, .un, .un, .un] (q__law_sizes_0 a1) (fun _ : Unit => [.no, .no, .no, .no, .no, .no, .no, .no, .no]) := by
  unfold q__law_sizes_0 b__law_sizes
  exact (js_seq (st1 := fun (t20 : List PyData) => [.ex (.sh a1), .ex (.sh (nd t20 0)), .ex (.sh (nd t20 1)), .ex (.sh (nd t20 2)), .ex (.sh (nd t20 3)), .ex (.sh (nd t20 4)), .ex (.sh (nd t20 5)), .un, .un]) (js_asg (pt := fun _ _ => []) (pt' := fun t20 => [.ex (.sh a1), .ex (.sh (nd t20 0)), .ex (.sh (nd t20 1)), .ex (.sh (nd t20 2)), .ex (.sh (nd t20 3)), .ex (.sh (nd t20 4)), .ex (.sh (nd t20 5)), .un, .un]) (j_call okq__law_drawn (j_lcons (j_v rfl) (j_lcons (j_lst (j_lcons j_c (j_lcons j_c (j_lcons j_c (j_lcons j_c (j_lcons j_c (j_lcons j_c j_lnil))))))) j_lnil))) fun _ => (jt_tup fun t20 => (jts_cons (by decide) (jts_cons (by decide) (jts_cons (by decide) (jts_cons (by decide) (jts_cons (by decide) (jts_cons (by decide) jts_nil)))))))) fun t20 => (js_seq (st1 := fun (s44 : Unit) => [.no, .ex (.sh (nd t20 0)), .ex (.sh (nd t20 1)), .ex (.sh (nd t20 2)), .ex (.sh (nd t20 3)), .ex (.sh (nd t20 4)), .ex (.sh (nd t20 5)), .no, .no]) (js_if (j_test (j_bin (j_v rfl) j_c)) (js_retc (j_tup (j_lcons (j_bin j_c (j_bin (j_v rfl) j_c)) (j_lcons (j_bin j_c (j_bin (j_v rfl) j_c)) (j_lcons (j_bin j_c (j_bin (j_v rfl) j_c)) j_lnil))))) (js_nil (by exact (.no (.eq (.eq (.eq (.eq (.eq (.eq (.no (.no .nil)))))))))))) fun s44 => (js_seq (st1 := fun (s82 : Unit) => [.no, .ex (.sh (nd t20 0)), .ex (.sh (nd t20 1)), .ex (.sh (nd t20 2)), .ex (.sh (nd t20 3)), .ex (.sh (nd t20 4)), .ex (.sh (nd t20 5)), .no, .no]) (js_if (j_test (j_bin (j_v rfl) j_c)) (js_retc (j_tup (j_lcons (j_bin j_c (j_v rfl)) (j_lcons (j_bin j_c (j_v rfl)) (j_lcons (j_bin j_c (j_v rfl)) j_lnil))))) (js_nil .rf)) fun s82 => (js_seq (st1 := fun (v102 : OV) => [.no, .ex (.sh (nd t20 0)), .ex (.sh (nd t20 1)), .ex (.sh (nd t20 2)), .ex v102, .ex (.sh (nd t20 4)), .ex (.sh (nd t20 5)), .no, .no]) (js_set (j_bin j_c (j_bin (j_v rfl) j_c))) fun v102 => (js_seq (st1 := fun (s117 : Unit) => [.no, .ex (.sh (nd t20 0)), .ex (.sh (nd t20 1)), .ex (.sh (nd t20 2)), .ex v102, .ex (.sh (nd t20 4)), .ex (.sh (nd t20 5)), .no, .no]) (js_if (j_test (j_bin (j_v rfl) j_c)) (js_retc (j_tup (j_lcons (j_bin j_c (j_v rfl)) (j_lcons (j_bin j_c (j_v rfl)) (j_lcons (j_vx rfl) j_lnil))))) (js_nil .rf)) fun s117 => (js_seq (st1 := fun (v146 : OV) => [.no, .ex (.sh (nd t20 0)), .ex (.sh (nd t20 1)), .ex (.sh (nd t20 2)), .ex (.sh (fz v102)), .ex (.sh (nd t20 4)), .ex (.sh (nd t20 5)), .ex v146, .no]) (js_set (j_fn (j_lcons j_c (j_lcons (j_bin (j_bin (j_vx rfl) (j_bin j_c (j_bin (j_v rfl) j_c))) (j_bin (j_v rfl) (j_v rfl))) j_lnil)))) fun v146 => (js_seq (st1 := fun (v162 : OV) => [.no, .ex (.sh (nd t20 0)), .ex (.sh (nd t20 1)), .ex (.sh (nd t20 2)), .ex (.sh (fz v102)), .ex (.sh (nd t20 4)), .ex (.sh (nd t20 5)), .ex v146, .ex v162]) (js_set (j_fn (j_lcons j_c (j_lcons (j_bin (j_bin (j_v rfl) (j_bin j_c (j_bin (j_v rfl) j_c))) (j_bin (j_v rfl) (j_v rfl))) j_lnil)))) fun v162 => (js_retc (j_tup (j_lcons (j_vx rfl) (j_lcons (j_bin (j_lst (j_lcons (j_vx rfl) (j_lcons (j_bin j_c (j_bin (j_v rfl) (j_v rfl))) j_lnil))) (j_bin (j_v rfl) j_c)) (j_lcons (j_v rfl) j_lnil))))))))))))
def q__law_sizes : List PyData → R OV
  | [a1] => O.fin (q__law_sizes_0 a1)
  | _ => .stk
theorem okq__law_sizes : jP m__law_sizes q__law_sizes := fun ds μ => match ds with
  | [a1] => j_def (qq := q__law_sizes_0 a1) (okq__law_sizes_0 a1)
  | [] => trivial
  | _ :: _ :: _ => trivial
local macro_rules | `(tactic| decreasing_trivial_pre_omega) => `(tactic| simp only [fz_shL, itR_shL, ownR_shL, dLenP_l, dLenP_t, gIsiP_ll, gIsiP_tt, gIsiP_tl, gIsiP_lt, raiseO_s, raiseKO_s, tryO_next, tryO_ret, tryO_stk, gSubO_eq, orP_some, ↓R.bind_ok, ↓R.bind_exc, ↓R.bind_stk, ↓O.bind_next, ↓O.bind_ret, ↓O.bind_exc, ↓O.bind_stk, R.bind_ok, R.bind_exc, R.bind_stk, O.bind_next, O.bind_ret, O.bind_exc, O.bind_stk, O.of_ok, O.of_exc, O.of_stk, O.fin_next, O.fin_ret, O.fin_exc, ofOR_some, ofPR_some, toBR_b, andR_b, orR_b, chR_b, iR_i, noX_ok, szR_lit, Option.isSome_some, Option.isSome_none, mutR_app, mutR_some, ownR_lst, ownR_dk, ownR_dt, itR_tup, itR_list, itR_lst, unT_l2, unT_l3, unT_l4, unT_l5, unT_l6, unT_l7, unL_l2, unL_l3, unL_l4, unL_l5, unL_l6, unL_l7, nd0, nd1, nd2, nd3, nd4, nd5, nd6, par2R_ok, gAdd_int, gII_ok, gI_int, gOrd_int, gEq_int, fz_sh, fz_lst, gNot_b, g1, g1_one, gi_int_none, gi_int_bool, gi_int_int, gi_int_str, gi_int_list, gi_int_tuple, gi_bool_none, gi_bool_bool, gi_bool_int, gi_bool_str, gi_bool_list, gi_bool_tuple, gi_str_none, gi_str_bool, gi_str_int, gi_str_str, gi_str_list, gi_str_tuple, gi_list_none, gi_list_bool, gi_list_int, gi_list_str, gi_list_list, gi_list_tuple, gi_tuple_none, gi_tuple_bool, gi_tuple_int, gi_tuple_str, gi_tuple_list, gi_tuple_tuple, gMax_two, mApp_ok, ownT_lst, dLen_list, dLen_tup, gSub_list, gSub_tup, gSub_lst, atI_l0, atI_l1, atI_l2, atI_l3, atI_l4, atI_l5, atI_l6, Option.map_some, dInt_b, dInt_i, dAbs_i, List.map_cons, List.map_nil, List.cons_append, List.nil_append, if_true, if_false, Bool.false_eq_true, decide_true, decide_false, Bool.false_xor, Bool.true_xor, decide_eq_true_eq, List.length_cons, List.length_nil, nl0, nl1, nl2, nl3, nl4, nl5, nl6, nl7, nl8, nl9, nl10, nl11, nl12, nl13, nl14, nl15, nl16, nl17, nl18, nl19, nl20, Nat.reduceAdd, Nat.reduceSub, Nat.reduceMul, Int.reduceLT, Int.reduceEq, Int.reduceSub, Int.reduceAdd, Int.reduceNeg, Int.reduceLE, Int.reduceMul, Int.reduceToNat, sz_le, sz_lt, Nat.reduceLeDiff, Nat.reduceLT, Bool.not_true, Bool.not_false, Bool.true_and, Bool.and_true, Bool.false_and, Bool.and_false, Bool.true_or, Bool.or_true, Bool.false_or, Bool.or_false, rite_and, rite_or, rb_and, rb_or, Bool.decide_eq_true, Bool.decide_and, Bool.decide_or, gAdd_LL, gAdd_Ll, gAdd_lL, gAdd_lst, gAdd_TT, map_sh_fz, map_fz_shL, List.length_map, gEq_bool, eq_self, forO_nil, forO_cons, lcR_nil, rng1R_ok, rng2R_ok])
local macro_rules | `(tactic| get_elem_tactic_trivial) => `(tactic| simp only [fz_shL, itR_shL, ownR_shL, dLenP_l, dLenP_t, gIsiP_ll, gIsiP_tt, gIsiP_tl, gIsiP_lt, raiseO_s, raiseKO_s, tryO_next, tryO_ret, tryO_stk, gSubO_eq, orP_some, ↓R.bind_ok, ↓R.bind_exc, ↓R.bind_stk, ↓O.bind_next, ↓O.bind_ret, ↓O.bind_exc, ↓O.bind_stk, R.bind_ok, R.bind_exc, R.bind_stk, O.bind_next, O.bind_ret, O.bind_exc, O.bind_stk, O.of_ok, O.of_exc, O.of_stk, O.fin_next, O.fin_ret, O.fin_exc, ofOR_some, ofPR_some, toBR_b, andR_b, orR_b, chR_b, iR_i, noX_ok, szR_lit, Option.isSome_some, Option.isSome_none, mutR_app, mutR_some, ownR_lst, ownR_dk, ownR_dt, itR_tup, itR_list, itR_lst, unT_l2, unT_l3, unT_l4, unT_l5, unT_l6, unT_l7, unL_l2, unL_l3, unL_l4, unL_l5, unL_l6, unL_l7, nd0, nd1, nd2, nd3, nd4, nd5, nd6, par2R_ok, gAdd_int, gII_ok, gI_int, gOrd_int, gEq_int, fz_sh, fz_lst, gNot_b, g1, g1_one, gi_int_none, gi_int_bool, gi_int_int, gi_int_str, gi_int_list, gi_int_tuple, gi_bool_none, gi_bool_bool, gi_bool_int, gi_bool_str, gi_bool_list, gi_bool_tuple, gi_str_none, gi_str_bool, gi_str_int, gi_str_str, gi_str_list, gi_str_tuple, gi_list_none, gi_list_bool, gi_list_int, gi_list_str, gi_list_list, gi_list_tuple, gi_tuple_none, gi_tuple_bool, gi_tuple_int, gi_tuple_str, gi_tuple_list, gi_tuple_tuple, gMax_two, mApp_ok, ownT_lst, dLen_list, dLen_tup, gSub_list, gSub_tup, gSub_lst, atI_l0, atI_l1, atI_l2, atI_l3, atI_l4, atI_l5, atI_l6, Option.map_some, dInt_b, dInt_i, dAbs_i, List.map_cons, List.map_nil, List.cons_append, List.nil_append, if_true, if_false, Bool.false_eq_true, decide_true, decide_false, Bool.false_xor, Bool.true_xor, decide_eq_true_eq, List.length_cons, List.length_nil, nl0, nl1, nl2, nl3, nl4, nl5, nl6, nl7, nl8, nl9, nl10, nl11, nl12, nl13, nl14, nl15, nl16, nl17, nl18, nl19, nl20, Nat.reduceAdd, Nat.reduceSub, Nat.reduceMul, Int.reduceLT, Int.reduceEq, Int.reduceSub, Int.reduceAdd, Int.reduceNeg, Int.reduceLE, Int.reduceMul, Int.reduceToNat, sz_le, sz_lt, Nat.reduceLeDiff, Nat.reduceLT, Bool.not_true, Bool.not_false, Bool.true_and, Bool.and_true, Bool.false_and, Bool.and_false, Bool.true_or, Bool.or_true, Bool.false_or, Bool.or_false, rite_and, rite_or, rb_and, rb_or, Bool.decide_eq_true, Bool.decide_and, Bool.decide_or, gAdd_LL, gAdd_Ll, gAdd_lL, gAdd_lst, gAdd_TT, map_sh_fz, map_fz_shL, List.length_map, gEq_bool, eq_self, forO_nil, forO_cons, lcR_nil, rng1R_ok, rng2R_ok, *])
structure Ship where
  r : Int
  c : Int
  al : Bool
  n : Nat
deriving DecidableEq
abbrev Cell := Int × Int
def cD (p : Cell) : PyData := .tuple [.int p.1, .int p.2]
def wayS (al : Bool) : Str := if al = true then "along" else "down"
def Ship.d (s : Ship) : PyData := .tuple [.int s.r, .int s.c, .str (wayS s.al), .int s.n]
def Ship.cells (s : Ship) : List Cell := (List.range s.n).map fun k => if s.al = true then (s.r, s.c + (k : Nat)) else (s.r + (k : Nat), s.c)
theorem str_ok (b : Bool) : PyData.strOk (wayS b) = true := by cases b <;> decide +kernel
theorem along_ok : PyData.strOk ("along" : Str) = true := by decide +kernel
theorem down_ok : PyData.strOk ("down" : Str) = true := by decide +kernel
theorem way_along (b : Bool) : decide (wayS b = ("along" : Str)) = b := by cases b <;> decide +kernel
theorem way_down (b : Bool) : decide (wayS b = ("down" : Str)) = !b := by cases b <;> decide +kernel
theorem gEq_along {b : Bool} : gEq false (.sh (.str (wayS b))) (.sh (.str "along")) = some (.sh (.bool b)) := by
  rw [gEq_str (str_ok b) along_ok, way_along, Bool.false_xor]
theorem gEq_down {b : Bool} : gEq false (.sh (.str (wayS b))) (.sh (.str "down")) = some (.sh (.bool (!b))) := by
  rw [gEq_str (str_ok b) down_ok, way_down, Bool.false_xor]
theorem len_cells (s : Ship) : s.cells.length = s.n := by simp [Ship.cells]
theorem cells_q {s : Ship} (hn : s.n ≤ 1000) : q_cells_of [s.d] = .ok (shL cD s.cells) := by
  obtain ⟨r, c, al, n⟩ := s
  have hn : n ≤ 1000 := hn
  unfold q_cells_of q_cells_of_0 Ship.d
  decreasing_trivial_pre_omega
  rw [gEq_along]
  decreasing_trivial_pre_omega
  rw [rng1R_n (by omega)]
  decreasing_trivial_pre_omega
  cases al with
  | true =>
    decreasing_trivial_pre_omega
    rw [lcR_map _ fun k : Nat => .sh (cD (r, c + k))]
    · decreasing_trivial_pre_omega
      rw [szR_le (by rw [List.length_range, sizeLine_eq]; omega)]
      decreasing_trivial_pre_omega
      simp [shL, Ship.cells]
    · intro k _; decreasing_trivial_pre_omega; rfl
  | false =>
    decreasing_trivial_pre_omega
    rw [lcR_map _ fun k : Nat => .sh (cD (r + k, c))]
    · decreasing_trivial_pre_omega
      rw [szR_le (by rw [List.length_range, sizeLine_eq]; omega)]
      decreasing_trivial_pre_omega
      simp [shL, Ship.cells]
    · intro k _; decreasing_trivial_pre_omega; rfl
theorem flat_one {α β : Type} (f : α → β) : ∀ xs : List α, xs.flatMap (fun x => [f x]) = xs.map f
  | [] => rfl
  | x :: xs => by rw [List.flatMap_cons, flat_one f xs]; rfl
theorem gMul_n {i j : Int} (h : -1000 ≤ j ∧ j ≤ 1000) : gMulI (.sh (.int i)) (.sh (.int j)) = some (.sh (.int (i * j))) := gII_ok (mulOk_r ⟨by omega, by omega⟩)
theorem law_cells_q {s : Ship} (hn : s.n ≤ 1000) : q__law_cells [s.d] = .ok (shL cD s.cells) := by
  obtain ⟨r, c, al, n⟩ := s
  have hn : n ≤ 1000 := hn
  unfold q__law_cells q__law_cells_0 Ship.d
  decreasing_trivial_pre_omega
  rw [rng1R_n (by omega)]
  decreasing_trivial_pre_omega
  rw [forO_g0 (fun k : Nat => .int (k : Nat)) cD (fun k : Nat => [if al = true then (r, c + (k : Nat)) else (r + (k : Nat), c)]) 1000]
  · decreasing_trivial_pre_omega
    rw [flat_one]
    rfl
  · rw [flat_one, List.length_map, List.length_range]; exact hn
  · intro k _ a ha
    rw [List.length_singleton] at ha
    unfold q__law_cells_1
    have h0 : ∀ p : Cell, mutR mApp (shL cD a) [.sh (cD p)] = .ok (shL cD (a ++ [p]), .sh .none) := fun p => mutR_some (app_shL (en := cD) (by rw [sizeLine_eq]; omega))
    decreasing_trivial_pre_omega
    rw [gEq_along, gEq_down]
    decreasing_trivial_pre_omega
    cases al with
    | true =>
      (try decreasing_trivial_pre_omega)
      rw [gMul_n (by omega), gMul_n (by omega)]
      decreasing_trivial_pre_omega
      rw [Int.mul_zero, Int.mul_one, Int.add_zero, show (PyData.tuple [.int r, .int (c + (k : Nat))]) = cD (r, c + (k : Nat)) from rfl, h0]
      decreasing_trivial_pre_omega
    | false =>
      (try decreasing_trivial_pre_omega)
      rw [gMul_n (by omega), gMul_n (by omega)]
      decreasing_trivial_pre_omega
      rw [Int.mul_zero, Int.mul_one, Int.add_zero, show (PyData.tuple [.int (r + (k : Nat)), .int c]) = cD (r + (k : Nat), c) from rfl, h0]
      decreasing_trivial_pre_omega
def shipsAt (R C l r c : Nat) : List Ship := (if c + l ≤ C then [⟨r, c, true, l⟩] else []) ++ (if r + l ≤ R ∧ 1 < l then [⟨r, c, false, l⟩] else [])
def ships (R C l : Nat) : List Ship := (List.range R).flatMap fun r => (List.range C).flatMap fun c => shipsAt R C l r c
theorem flat_le {α β : Type} {f : α → List β} {m : Nat} : ∀ xs : List α, (∀ x ∈ xs, (f x).length ≤ m) → (xs.flatMap f).length ≤ xs.length * m
  | [], _ => by simp
  | x :: xs, h => by
    have := flat_le xs fun y hy => h y (List.mem_cons_of_mem _ hy)
    have := h x List.mem_cons_self
    rw [List.flatMap_cons, List.length_append, List.length_cons, Nat.succ_mul]
    omega
theorem shipsAt_len {R C l r c : Nat} : (shipsAt R C l r c).length ≤ 2 := by
  unfold shipsAt
  rw [List.length_append]
  by_cases a : c + l ≤ C <;> by_cases b : r + l ≤ R ∧ 1 < l <;> simp [a, b]
theorem shipsRow_len {R C l r : Nat} : ((List.range C).flatMap fun c => shipsAt R C l r c).length ≤ C * 2 := by
  have := flat_le (f := fun c => shipsAt R C l r c) (List.range C) fun c _ => shipsAt_len
  rwa [List.length_range] at this
theorem ships_len {R C l : Nat} : (ships R C l).length ≤ R * (C * 2) := by
  have := flat_le (f := fun r => (List.range C).flatMap fun c => shipsAt R C l r c) (List.range R) fun r _ => shipsRow_len
  rwa [List.length_range] at this
theorem gIsi_sh {T : String} {d : PyData} (h : isDict d = false) : gIsi T [.sh d] = some (.sh (.bool (isiB T d))) := by
  unfold gIsi
  simp only [fz_sh, h, Bool.false_eq_true, if_false]
def onB (R C : Int) (p : Cell) : Bool := (decide (0 ≤ p.1) && decide (p.1 < R)) && (decide (0 ≤ p.2) && decide (p.2 < C))
theorem on_q {R C : Int} {p : Cell} : q_is_on [cD (R, C), cD p] = .ok (.sh (.bool (onB R C p))) := by
  unfold q_is_on q_is_on_0 cD onB
  decreasing_trivial_pre_omega
def Ship.on (R C : Int) (s : Ship) : Bool := s.cells.all (onB R C)
theorem boolsOf_map {α : Type} (f : α → Bool) : ∀ l : List α, boolsOf (l.map fun x => PyData.bool (f x)) = some (l.map f)
  | [] => rfl
  | x :: l => by simp [boolsOf, boolsOf_map f l]
theorem onB_iff {R C : Int} {p : Cell} : onB R C p = true ↔ 0 ≤ p.1 ∧ p.1 < R ∧ 0 ≤ p.2 ∧ p.2 < C := by
  unfold onB
  simp only [Bool.and_eq_true, decide_eq_true_eq, and_assoc]
theorem on_along {R C r c : Int} {n : Nat} (hn : 0 < n) : Ship.on R C ⟨r, c, true, n⟩ = true ↔ 0 ≤ r ∧ r < R ∧ 0 ≤ c ∧ c + n ≤ C := by
  unfold Ship.on Ship.cells
  simp only [if_true, List.all_map, List.all_eq_true, List.mem_range, Function.comp, onB_iff]
  constructor
  · intro h
    have h0 := h 0 hn
    have h1 := h (n - 1) (by omega)
    omega
  · intro h k hk
    omega
theorem on_down {R C r c : Int} {n : Nat} (hn : 0 < n) : Ship.on R C ⟨r, c, false, n⟩ = true ↔ 0 ≤ r ∧ r + n ≤ R ∧ 0 ≤ c ∧ c < C := by
  unfold Ship.on Ship.cells
  simp only [Bool.false_eq_true, if_false, List.all_map, List.all_eq_true, List.mem_range, Function.comp, onB_iff]
  constructor
  · intro h
    have h0 := h 0 hn
    have h1 := h (n - 1) (by omega)
    omega
  · intro h k hk
    omega
def Ship.ok (R C : Int) (s : Ship) : Bool := !(decide (s.n = 1) && !s.al) && s.on R C
inductive Rule | free | sides | corners
deriving DecidableEq
def Rule.s : Rule → Str
  | .free => "free" | .sides => "sides" | .corners => "corners"
def Rule.tog : Rule → Int
  | .free => 0 | .sides => 1 | .corners => 2
def Rule.eith : Rule → Int
  | .free => 0 | .sides => 1 | .corners => 1
abbrev Rule.d (u : Rule) : PyData := .str u.s
def ab (i : Int) : Int := if i < 0 then -i else i
def near (u : Rule) (p q : Cell) : Bool := decide (ab (p.1 - q.1) + ab (p.2 - q.2) ≤ u.tog) && decide (max2 (ab (p.1 - q.1)) (ab (p.2 - q.2)) ≤ u.eith)
def keepB (u : Rule) (s t : Ship) : Bool := s.cells.all fun p => t.cells.all fun q => !near u p q
abbrev cK (p : Cell) : List Key := [.inl p.1, .inl p.2]
def dtC (l : List Cell) : OV := .dt (l.map fun p => (cK p, .sh (.bool true)))
def dtD (l : List Cell) : PyData := .dict ((.none, .none) :: l.map fun p => (cD p, .bool true))
theorem fz_dtC (l : List Cell) : fz (dtC l) = dtD l := by
  unfold dtC dtD
  rw [fz, fzt_eq, List.map_map]
  refine congrArg _ (congrArg _ (List.map_congr_left fun p _ => ?_))
  simp only [Function.comp, fz_sh]
  rfl
def insC (l : List Cell) (p : Cell) : List Cell := if p ∈ l then l else l ++ [p]
theorem cK_inj {p q : Cell} (h : cK p = cK q) : p = q := by
  obtain ⟨a, b⟩ := p
  obtain ⟨c, d⟩ := q
  injection h with h1 h2
  injection h2 with h2 _
  injection h1 with h1
  injection h2 with h2
  have h1 : a = c := h1
  have h2 : b = d := h2
  rw [h1, h2]
theorem asDK_cD (p : Cell) : asDK (cD p) = some (.inr (cK p)) := rfl
theorem put_dtC : ∀ (l : List Cell) (p : Cell), putG (l.map fun p => (cK p, OV.sh (.bool true))) (cK p) (.sh (.bool true)) = (insC l p).map fun p => (cK p, OV.sh (.bool true))
  | [], p => by simp [putG, insC]
  | q :: l, p => by
    rw [List.map_cons, putG]
    by_cases e : q = p
    · subst e
      simp [insC]
    · have ne : cK q ≠ cK p := fun h => e (cK_inj h)
      rw [if_neg ne, put_dtC l p]
      unfold insC
      by_cases m : p ∈ l
      · rw [if_pos m, if_pos (List.mem_cons_of_mem _ m)]; rfl
      · rw [if_neg m, if_neg (by simp [m]; exact fun h => e h.symm)]; rfl
theorem set_dtC {l : List Cell} {p : Cell} (h : l.length < sizeLine) : setR (dtC l) (.sh (cD p)) (.sh (.bool true)) = .ok (dtC (insC l p)) := by
  have e : setO (dtC l) (cD p) (.sh (.bool true)) = some (dtC (insC l p)) := by
    unfold setO dtC
    simp only [asDK_cD, List.length_map]
    rw [if_pos ⟨h, rfl⟩, put_dtC]
  unfold setR
  rw [fz_sh, e]
theorem find_dtD : ∀ (l : List Cell) (p : Cell), ((l.map fun p => (cD p, PyData.bool true)).find? fun z => decide (asDK z.1 = some (.inr (cK p)))) = if p ∈ l then some (cD p, .bool true) else none
  | [], _ => rfl
  | q :: l, p => by
    rw [List.map_cons, List.find?_cons]
    by_cases e : q = p
    · subst e
      simp [asDK_cD]
    · have ne : ¬ (asDK (cD q) = some (.inr (cK p))) := fun h => e (cK_inj (by rw [asDK_cD] at h; injection h with h; injection h))
      rw [decide_eq_false ne]
      simp only [find_dtD l p]
      by_cases m : p ∈ l
      · rw [if_pos m, if_pos (List.mem_cons_of_mem _ m)]
      · rw [if_neg m, if_neg (by simp [m]; exact fun h => e h.symm)]
theorem look_dtD (l : List Cell) (p : Cell) : dLook ((.none, .none) :: l.map fun p => (cD p, PyData.bool true)) (cD p) = if p ∈ l then some (.bool true) else none := by
  unfold dLook
  rw [asDK_cD]
  simp only [List.find?_cons]
  have e : decide (asDK PyData.none = some (Sum.inr (cK p))) = false := rfl
  rw [e]
  simp only [find_dtD]
  by_cases m : p ∈ l <;> simp [m]
theorem okK_dtD {l : List (PyData × PyData)} {p : Cell} : okK ((.none, .none) :: l) (cD p) = true := rfl
theorem in_dtD {neg : Bool} {l : List Cell} {p : Cell} : gIn neg (.sh (cD p)) (.sh (dtD l)) = some (.sh (.bool (neg ^^ decide (p ∈ l)))) := by
  unfold gIn dtD
  simp only [fz_sh, okK_dtD, if_true, look_dtD]
  by_cases m : p ∈ l <;> simp [m]
theorem inP_dtD {neg : Bool} {l : List Cell} {p : Cell} : gInP neg (cD p) (dtD l) = some (.bool (neg ^^ decide (p ∈ l))) := by
  unfold gInP dtD
  simp only [okK_dtD, if_true, look_dtD]
  by_cases m : p ∈ l <;> simp [m]
theorem insC_len (l : List Cell) (p : Cell) : (insC l p).length ≤ l.length + 1 := by
  unfold insC
  by_cases m : p ∈ l <;> simp [m]
def insAll (l m : List Cell) : List Cell := m.foldl insC l
theorem insAll_len : ∀ {m l : List Cell}, (insAll l m).length ≤ l.length + m.length
  | [], l => Nat.le_refl _
  | p :: m, l => by
    have a := insAll_len (m := m) (l := insC l p)
    have b := insC_len l p
    show (insAll (insC l p) m).length ≤ _
    rw [List.length_cons]; omega
structure EqE {α : Type} (e : α → PyData) (n : Nat) : Prop where
  lay : ∀ x, (e x).canLay0 = true
  dep : ∀ x, (e x).depth ≤ n
  eqv : ∀ x y, PyData.eqv (e x) (e y) = true ↔ x = y
theorem canLayAll_of : ∀ {ds : List PyData}, (∀ d ∈ ds, d.canLay0 = true) → PyData.canLayAll0 ds = true
  | [], _ => by simp [PyData.canLayAll0]
  | d :: ds, h => by
    rw [PyData.canLayAll0, h d List.mem_cons_self, canLayAll_of fun x hx => h x (List.mem_cons_of_mem _ hx)]; rfl
theorem depthAll_of {m : Nat} : ∀ {ds : List PyData}, (∀ d ∈ ds, d.depth ≤ m) → PyData.depthAll ds ≤ m
  | [], _ => by simp [PyData.depthAll]
  | d :: ds, h => by
    have a := h d List.mem_cons_self
    have b := depthAll_of (ds := ds) fun x hx => h x (List.mem_cons_of_mem _ hx)
    rw [PyData.depthAll]
    omega
section
variable {α β : Type} {e : α → PyData} {f : β → PyData} {n m : Nat}
theorem EqE.all (h : EqE e n) : ∀ xs ys : List α, PyData.eqvAll (xs.map e) (ys.map e) = true ↔ xs = ys
  | [], [] => by simp [PyData.eqvAll]
  | [], _ :: _ => by simp [PyData.eqvAll]
  | _ :: _, [] => by simp [PyData.eqvAll]
  | x :: xs, y :: ys => by simp [PyData.eqvAll, h.eqv, h.all xs ys]
theorem EqE.list (h : EqE e n) : EqE (fun xs : List α => .list (xs.map e)) (n + 1) where
  lay xs := by rw [PyData.canLay0]; exact canLayAll_of fun d hd => by obtain ⟨x, _, rfl⟩ := List.mem_map.mp hd; exact h.lay x
  dep xs := by
    have := depthAll_of (m := n) (ds := xs.map e) fun d hd => by obtain ⟨x, _, rfl⟩ := List.mem_map.mp hd; exact h.dep x
    rw [PyData.depth]; omega
  eqv xs ys := by rw [PyData.eqv]; exact h.all xs ys
theorem EqE.tup (h : EqE e n) : EqE (fun xs : List α => .tuple (xs.map e)) (n + 1) where
  lay xs := by rw [PyData.canLay0]; exact canLayAll_of fun d hd => by obtain ⟨x, _, rfl⟩ := List.mem_map.mp hd; exact h.lay x
  dep xs := by
    have := depthAll_of (m := n) (ds := xs.map e) fun d hd => by obtain ⟨x, _, rfl⟩ := List.mem_map.mp hd; exact h.dep x
    rw [PyData.depth]; omega
  eqv xs ys := by rw [PyData.eqv]; exact h.all xs ys
theorem EqE.pair (h : EqE e n) (k : EqE f m) : EqE (fun p : α × β => .tuple [e p.1, f p.2]) (max n m + 1) where
  lay p := by simp [PyData.canLay0, PyData.canLayAll0, h.lay, k.lay]
  dep p := by
    have := h.dep p.1
    have := k.dep p.2
    simp only [PyData.depth, PyData.depthAll]; omega
  eqv p q := by
    obtain ⟨a, b⟩ := p
    obtain ⟨c, d⟩ := q
    simp [PyData.eqv, PyData.eqvAll, h.eqv, k.eqv]
theorem EqE.shaped (h : EqE e n) (hn : n ≤ 64) (x : α) : SeqAt.shaped (e x) = true := by
  unfold SeqAt.shaped
  rw [h.lay x, decide_eq_true (Nat.le_trans (h.dep x) hn)]; rfl
theorem EqE.eq [DecidableEq α] (h : EqE e n) (hn : n ≤ 64) {neg : Bool} {a b : OV} {x y : α} (ha : fz a = e x) (hb : fz b = e y) : gEq neg a b = some (.sh (.bool (neg ^^ decide (x = y)))) := by
  unfold gEq
  rw [ha, hb, h.shaped hn, h.shaped hn, if_pos ⟨rfl, rfl⟩]
  have : PyData.eqv (e x) (e y) = decide (x = y) := by rw [Bool.eq_iff_iff, h.eqv, decide_eq_true_eq]
  rw [this]
theorem EqE.eqL [DecidableEq α] (h : EqE e n) (hn : n ≤ 63) {neg : Bool} {xs ys : List α} : gEq neg (shL e xs) (shL e ys) = some (.sh (.bool (neg ^^ decide (xs = ys)))) := h.list.eq (by omega) fz_shL fz_shL
theorem EqE.eqN [DecidableEq α] (h : EqE e n) (hn : n ≤ 63) {neg : Bool} {xs : List α} : gEq neg (shL e xs) (.lst []) = some (.sh (.bool (neg ^^ xs.isEmpty))) := by
  have := h.eqL hn (neg := neg) (xs := xs) (ys := [])
  rw [show shL e ([] : List α) = .lst [] from rfl] at this
  rw [this]
  cases xs <;> rfl
theorem EqE.eqND [DecidableEq α] (h : EqE e n) (hn : n ≤ 63) {neg : Bool} {xs : List α} : gEq neg (.sh (.list (xs.map e))) (.lst []) = some (.sh (.bool (neg ^^ xs.isEmpty))) := by
  rw [h.list.eq (x := xs) (y := []) (by omega) fz_sh (by rw [fz_lst]; rfl)]
  cases xs <;> rfl
theorem EqE.inL [DecidableEq α] (h : EqE e n) (hn : n ≤ 63) {neg : Bool} {x : α} {xs : List α} {a b : OV} (ha : fz a = e x) (hb : fz b = .list (xs.map e)) : Ev.gIn neg a b = some (.sh (.bool (neg ^^ decide (x ∈ xs)))) := by
  unfold Ev.gIn
  rw [ha, hb]
  simp only []
  rw [h.shaped (by omega), h.list.shaped (by omega) xs, if_pos ⟨rfl, rfl⟩]
  have : ((xs.map e).any fun z => PyData.eqv z (e x)) = decide (x ∈ xs) := by
    rw [Bool.eq_iff_iff, decide_eq_true_eq, List.any_map, List.any_eq_true]
    constructor
    · rintro ⟨y, hy, q⟩; rw [← (h.eqv y x).mp q]; exact hy
    · intro hx; exact ⟨x, hx, (h.eqv x x).mpr rfl⟩
  rw [this]
end
theorem EqE.int : EqE PyData.int 0 := ⟨fun _ => by simp [PyData.canLay0], fun _ => by simp [PyData.depth], fun x y => by rw [eqv_int, decide_eq_true_eq]⟩
theorem EqE.bool : EqE PyData.bool 0 := ⟨fun _ => by simp [PyData.canLay0], fun _ => by simp [PyData.depth], fun x y => by simp [PyData.eqv]⟩
theorem EqE.cell : EqE cD 1 := by
  have := EqE.pair EqE.int EqE.int
  exact this
theorem EqE.ship : EqE Ship.d 1 where
  lay s := by simp [Ship.d, PyData.canLay0, PyData.canLayAll0, str_ok]
  dep s := by simp [Ship.d, PyData.depth, PyData.depthAll]
  eqv s t := by
    obtain ⟨a, b, c, d⟩ := s
    obtain ⟨a', b', c', d'⟩ := t
    have w : (wayS c == wayS c') = true ↔ c = c' := by cases c <;> cases c' <;> decide +kernel
    simp only [Ship.d, PyData.eqv, PyData.eqvAll, Bool.and_eq_true, beq_iff_eq, Bool.and_true, Ship.mk.injEq]
    rw [← beq_iff_eq (a := wayS c), w]
    constructor
    · rintro ⟨h1, h2, h3, h4⟩; exact ⟨h1, h2, h3, by omega⟩
    · rintro ⟨h1, h2, h3, h4⟩; exact ⟨h1, h2, h3, by omega⟩
def Ship.lt (s t : Ship) : Bool := decide (s.r < t.r) || (decide (s.r = t.r) && (decide (s.c < t.c) || (decide (s.c = t.c) && ((s.al && !t.al) || (decide (s.al = t.al) && decide (s.n < t.n))))))
theorem way_lt (a b : Bool) : PySem.W.dataLt (.str (wayS a)) (.str (wayS b)) = (a && !b) := by
  rw [PySem.W.dataLt_str]
  cases a <;> cases b <;> decide +kernel
theorem ship_lt (s t : Ship) : PySem.W.dataLt s.d t.d = s.lt t := by
  obtain ⟨a, b, c, d⟩ := s
  obtain ⟨a', b', c', d'⟩ := t
  have w : PyData.eqv (.str (wayS c)) (.str (wayS c')) = decide (c = c') := by rw [eqv_str]; cases c <;> cases c' <;> decide +kernel
  unfold Ship.d Ship.lt
  rw [PySem.W.dataLt_tuple, PySem.W.dataLt_cons (by rfl), PySem.W.dataLt_cons (by rfl), PySem.W.dataLt_cons (by rfl), PySem.W.dataLt_cons (by rfl), PySem.W.dataLt_int, PySem.W.dataLt_int, PySem.W.dataLt_int, way_lt, eqv_int, eqv_int, eqv_int, w]
  have e : PyProof.Rows.lexLt PyProof.Rows.itemOrd (PySem.W.keyToksAll []) (PySem.W.keyToksAll []) = false := by decide +kernel
  rw [e]
  by_cases h1 : a = a'
  · subst h1
    by_cases h2 : b = b'
    · subst h2
      by_cases h3 : c = c'
      · subst h3
        by_cases h4 : (d : Int) = d'
        · have : d = d' := by omega
          subst this
          simp
        · have h5 : ((d : Int) < d') ↔ d < d' := by omega
          simp [h4, h5]
      · simp [h3]
    · simp [h2]
  · simp [h1]
theorem cell_lt (p q : Cell) : PySem.W.dataLt (cD p) (cD q) = decide (p.1 < q.1 ∨ (p.1 = q.1 ∧ p.2 < q.2)) := PySem.W.dataLt_ii _ _ _ _
theorem leD_eq (d e : PyData) : leD d e = !PySem.W.dataLt e d := rfl
theorem sort_id {α : Type} {e : α → PyData} {xs : List α} (h : xs.Pairwise fun x y => PySem.W.dataLt (e y) (e x) = false) : (xs.map e).mergeSort leD = xs.map e := by
  apply List.mergeSort_of_pairwise
  rw [List.pairwise_map]
  exact h.imp fun {x y} q => by rw [leD_eq, q]; rfl
section
variable {α : Type} {e : α → PyData} {n : Nat}
theorem EqE.eqP [DecidableEq α] (h : EqE e n) (hn : n ≤ 64) {neg : Bool} {x y : α} : gEqP neg (e x) (e y) = some (.bool (neg ^^ decide (x = y))) := by
  unfold gEqP
  rw [h.shaped hn, h.shaped hn, if_pos ⟨rfl, rfl⟩]
  have : PyData.eqv (e x) (e y) = decide (x = y) := by rw [Bool.eq_iff_iff, h.eqv, decide_eq_true_eq]
  rw [this]
theorem EqE.eqPL [DecidableEq α] (h : EqE e n) (hn : n ≤ 63) {neg : Bool} {xs ys : List α} : gEqP neg (.list (xs.map e)) (.list (ys.map e)) = some (.bool (neg ^^ decide (xs = ys))) := h.list.eqP (by omega)
theorem sort_ok (h : EqE e n) (hn : n ≤ 60) {xs : List α} (al : ∀ x ∈ xs, ∀ y ∈ xs, PySem.W.alike (e x) (e y) = true) (tb : (∀ x, tupB (e x) = true) ∨ ∀ x, offB (e x) = true) (hl : xs.length ≤ sizeLine) : sortOk (xs.map e) = true := by
  unfold sortOk
  simp only [Bool.and_eq_true, decide_eq_true_eq, List.length_map, List.all_map, List.all_eq_true, Function.comp, Bool.or_eq_true]
  refine ⟨⟨⟨fun x hx y hy => al x hx y hy, ?_⟩, fun x _ => ⟨h.shaped (by omega) x, Nat.le_trans (h.dep x) hn⟩⟩, hl⟩
  rcases tb with tb | tb
  · exact .inl fun x _ => tb x
  · exact .inr fun x _ => tb x
theorem sort_q (h : EqE e n) (hn : n ≤ 60) {xs : List α} (al : ∀ x ∈ xs, ∀ y ∈ xs, PySem.W.alike (e x) (e y) = true) (tb : (∀ x, tupB (e x) = true) ∨ ∀ x, offB (e x) = true) (hl : xs.length ≤ sizeLine)
    (hp : xs.Pairwise fun x y => PySem.W.dataLt (e y) (e x) = false) : dSorted (.list (xs.map e)) = some (shL e xs) := by
  unfold dSorted
  simp only
  unfold sortD
  rw [if_pos (sort_ok h hn al tb hl), sort_id hp, List.map_map]; rfl
end
theorem ship_alike (s t : Ship) : PySem.W.alike s.d t.d = true := rfl
theorem cell_alike (s t : Cell) : PySem.W.alike (cD s) (cD t) = true := rfl
theorem mem_shipsAt {R C l r c : Nat} {s : Ship} (h : s ∈ shipsAt R C l r c) : s.r = r ∧ s.c = c ∧ s.n = l := by
  unfold shipsAt at h
  rcases List.mem_append.mp h with h | h
  · by_cases a : c + l ≤ C
    · rw [if_pos a] at h; rw [List.mem_singleton.mp h]; exact ⟨rfl, rfl, rfl⟩
    · rw [if_neg a] at h; cases h
  · by_cases a : r + l ≤ R ∧ 1 < l
    · rw [if_pos a] at h; rw [List.mem_singleton.mp h]; exact ⟨rfl, rfl, rfl⟩
    · rw [if_neg a] at h; cases h
theorem mem_shipsN {R C l : Nat} {s : Ship} (h : s ∈ ships R C l) : s.n = l := by
  unfold ships at h
  simp only [List.mem_flatMap] at h
  obtain ⟨r, _, c, _, h⟩ := h
  exact (mem_shipsAt h).2.2
theorem pair_range (n : Nat) : (List.range n).Pairwise fun a b => a < b := List.pairwise_lt_range
theorem lt_asymm {s t : Ship} (h : s.lt t = true) : t.lt s = false := by
  obtain ⟨a, b, c, d⟩ := s
  obtain ⟨a', b', c', d'⟩ := t
  unfold Ship.lt at h ⊢
  cases c <;> cases c' <;> simp at h ⊢ <;> omega
set_option exponentiation.threshold 2000 in
theorem stir_q {cell k : Int} (h0 : 0 ≤ k) (h1 : k < 2 ^ 20) : q__law_stir [.int cell, .int k] = .ok (.sh (.int (stir cell k))) := by
  have p10 : powOk 10 60 = true := by decide +kernel
  have b0 : 0 ≤ stirN cell k ∧ stirN cell k < 170141183460469231731687303715884105727 := by unfold stirN; omega
  have c0 : 0 ≤ cell % 10 ^ 60 ∧ cell % 10 ^ 60 < 10 ^ 60 := by omega
  have m1 : mulOk (cell % 10 ^ 60 + 7919 * k + 1) 27182818284590452353602874713527 = true := mulOk_n (n := 210) (m := 110) (by omega) (by decide) (by decide) (by decide) (by decide)
  have p5 : powOk (stirN cell k) 5 = true := powOk_n (n := 127) (k := 5) (by omega) (by decide)
  have p3 : powOk ((stirN cell k) ^ 5 + 48271 * k) 3 = true := powOk_n (n := 700) (k := 3) (by
    obtain ⟨n, hn⟩ := Int.eq_ofNat_of_zero_le b0.1
    obtain ⟨j, hj⟩ := Int.eq_ofNat_of_zero_le h0
    rw [hn, hj]
    have e : ((n : Int) ^ 5 + 48271 * (j : Int)) = ((n ^ 5 + 48271 * j : Nat) : Int) := by
      simp
    rw [e, Int.natAbs_natCast]
    have hn2 : n ≤ 2 ^ 127 := by omega
    have h5 : n ^ 5 ≤ (2 ^ 127) ^ 5 := Nat.pow_le_pow_left hn2 5
    have hj2 : j < 2 ^ 20 := by omega
    have e2 : (2 ^ 127) ^ 5 = 2 ^ 635 := by rw [← Nat.pow_mul]
    rw [e2] at h5
    omega) (by decide)
  have d7 : divOk (((stirN cell k) ^ 5 + 48271 * k) ^ 3 % 162259276829213363391578010288127) 7 = true := (by decide +kernel : divOk 0 7 = true)
  have t1 : (60 : Int).toNat = 60 := rfl
  have t2 : (5 : Int).toNat = 5 := rfl
  have t3 : (3 : Int).toNat = 3 := rfl
  have k1 : mulOk 7919 k = true := mulOk_l (by decide)
  have k2 : mulOk 48271 k = true := mulOk_l (by decide)
  have z60 : (0 : Int) < 10 ^ 60 := by decide
  unfold q__law_stir q__law_stir_0
  unfold stirN at p5 p3 d7
  get_elem_tactic_trivial
  rfl
theorem drawn_q (cell : Int) (sizes : List Int) (hs : ∀ s ∈ sizes, 0 < s ∧ s < 2 ^ 62) (hl : sizes.length ≤ 63) : ∃ xs : List Int, q__law_drawn [.int cell, .list (sizes.map .int)] = .ok (shL .int xs) ∧ Drawn xs sizes := by
  have p18 : powOk 10 18 = true := by decide +kernel
  have t18 : (18 : Int).toNat = 18 := rfl
  obtain ⟨s', h1, rest, xs, h2, h3, h4⟩ := forO_inv (f := fun x s => q__law_drawn_1 (.int cell) (.list (sizes.map .int)) x s)
    (fun i s => ∃ (rest : Int) (xs : List Int), s = (shL PyData.int xs, .int rest) ∧ xs.length = i ∧ ∀ (k : Nat) (x s : Int), xs[k]? = some x → sizes[k]? = some s → 0 ≤ x ∧ x < s)
    ((List.range sizes.length).map fun z => .int ((z : Nat) : Int)) 0 (shL PyData.int [], .int cell) ⟨cell, [], rfl, rfl, by simp⟩ (fun k d s hk hp => by
      obtain ⟨rest, xs, rfl, hx, hb⟩ := hp
      rw [List.getElem?_map] at hk
      obtain ⟨m, hm, rfl⟩ := Option.map_eq_some_iff.mp hk
      have hk1 := (List.getElem?_eq_some_iff.mp hm).1
      rw [List.length_range] at hk1
      have : m = k := by
        have := (List.getElem?_eq_some_iff.mp hm).2
        simpa using this.symm
      subst this
      have hx' : xs.length = m := by omega
      have g0 : sizes[m]? = some sizes[m] := List.getElem?_eq_getElem hk1
      have hsk := hs sizes[m] (List.getElem_mem hk1)
      have at1 : atI (sizes.map PyData.int) (m : Nat) = some (.int sizes[m]) := atI_nat (by rw [List.getElem?_map, g0]; rfl)
      have ap : ∀ y : Int, mutR mApp (shL PyData.int xs) [.sh (.int y)] = .ok (shL PyData.int (xs ++ [y]), .sh .none) := fun y => mutR_some (app_shL (en := PyData.int) (by rw [sizeLine_eq]; omega))
      have st := stir_q (cell := cell) (k := (m : Nat)) (by omega) (by omega)
      have key : ∀ y : Int, 0 ≤ y → y < sizes[m] → ∀ (j : Nat) (x s : Int), (xs ++ [y])[j]? = some x → sizes[j]? = some s → 0 ≤ x ∧ x < s := fun y y0 y1 j x s h1 h2 => by
        by_cases e : j < xs.length
        · rw [List.getElem?_append_left e] at h1
          exact hb j x s h1 h2
        · rw [List.getElem?_append_right (by omega)] at h1
          have : j = xs.length := by
            have := (List.getElem?_eq_some_iff.mp h1).1
            simp at this
            omega
          subst this
          simp at h1
          subst h1
          rw [hx', g0] at h2
          cases h2
          exact ⟨y0, y1⟩
      have q0 : 0 < sizes[m] := hsk.1
      by_cases h18 : cell < 10 ^ 18
      · refine ⟨_, ?_, rest, xs ++ [stir cell (m : Nat) % sizes[m]], rfl, by simp; omega, key _ (Int.emod_nonneg _ (by omega)) (Int.emod_lt_of_pos _ hsk.1)⟩
        unfold q__law_drawn_1
        get_elem_tactic_trivial
      · by_cases hr : rest = 0
        · refine ⟨_, ?_, rest, xs ++ [stir cell (m : Nat) % sizes[m]], rfl, by simp; omega, key _ (Int.emod_nonneg _ (by omega)) (Int.emod_lt_of_pos _ hsk.1)⟩
          unfold q__law_drawn_1
          get_elem_tactic_trivial
        · have dv : divOk rest sizes[m] = true := divOk_n (n := 62) hsk.1 (by omega) (by decide) (by decide)
          refine ⟨_, ?_, rest / sizes[m], xs ++ [rest % sizes[m]], rfl, by simp; omega, key _ (Int.emod_nonneg _ (by omega)) (Int.emod_lt_of_pos _ hsk.1)⟩
          unfold q__law_drawn_1
          get_elem_tactic_trivial)
  rw [List.length_map, List.length_range, Nat.zero_add] at h3
  refine ⟨xs, ?_, h3, h4⟩
  unfold q__law_drawn q__law_drawn_0
  decreasing_trivial_pre_omega
  rw [rng1R_n (by omega)]
  decreasing_trivial_pre_omega
  rw [show ((OV.lst [], PyData.int cell) : OV × PyData) = (shL PyData.int [], .int cell) from rfl, h1, h2]
  decreasing_trivial_pre_omega
theorem Drawn.at {xs sizes : List Int} (h : Drawn xs sizes) {k : Nat} {s : Int} (hk : sizes[k]? = some s) : ∃ x, xs[k]? = some x ∧ 0 ≤ x ∧ x < s := by
  have hl := (List.getElem?_eq_some_iff.mp hk).1
  have : k < xs.length := by rw [h.1]; exact hl
  exact ⟨_, List.getElem?_eq_getElem this, h.2 k _ s (List.getElem?_eq_getElem this) hk⟩
theorem script_it (ns : List Int) (n : Int) (h : ns.length ≤ 63) : ∃ ms : List Int, (ofOR (gSl (.sh (.list (ns.map .int))) none (some n))) = .ok (shL PyData.int ms) ∧ gAdd (.lst [.sh (.int 0)]) (shL PyData.int ms) = some (.lst (.sh (.int 0) :: ms.map fun x => .sh (.int x))) ∧ ms.length ≤ 63 := by
  have hl := Nat.le_trans (cutD_len ns none (some n)) h
  refine ⟨cutD ns none (some n), ?_, ?_, hl⟩
  · unfold gSl
    simp only [fz_sh, cutD_map, ofOR_some]
    rw [shL, List.map_map]; rfl
  · rw [gAdd_lst (by simp only [List.length_map, List.length_cons, List.length_nil, sizeLine_eq]; omega)]
    simp [fz_sh]
def Gd (n : Nat) (d : PyData) : Prop := d.canLay0 = true ∧ d.depth ≤ n
theorem Gd.le {n m : Nat} {d : PyData} (h : Gd n d) (l : n ≤ m) : Gd m d := ⟨h.1, Nat.le_trans h.2 l⟩
theorem Gd.shaped {n : Nat} {d : PyData} (h : Gd n d) (l : n ≤ 64) : SeqAt.shaped d = true := by
  unfold SeqAt.shaped
  rw [h.1, decide_eq_true (Nat.le_trans h.2 l)]; rfl
theorem Gd.int (i : Int) : Gd 0 (.int i) := ⟨by simp [PyData.canLay0], by simp [PyData.depth]⟩
theorem Gd.bool (b : Bool) : Gd 0 (.bool b) := ⟨by simp [PyData.canLay0], by simp [PyData.depth]⟩
theorem Gd.none : Gd 0 .none := ⟨by simp [PyData.canLay0], by simp [PyData.depth]⟩
theorem Gd.str {x : Str} (h : PyData.strOk x = true) : Gd 0 (.str x) := ⟨by rw [PyData.canLay0]; exact h, by simp [PyData.depth]⟩
theorem Gd.list {n : Nat} {ds : List PyData} (h : ∀ d ∈ ds, Gd n d) : Gd (n + 1) (.list ds) :=
  ⟨by rw [PyData.canLay0]; exact canLayAll_of fun d hd => (h d hd).1, by
    have := depthAll_of (m := n) fun d hd => (h d hd).2
    rw [PyData.depth]; omega⟩
theorem Gd.tup {n : Nat} {ds : List PyData} (h : ∀ d ∈ ds, Gd n d) : Gd (n + 1) (.tuple ds) :=
  ⟨by rw [PyData.canLay0]; exact canLayAll_of fun d hd => (h d hd).1, by
    have := depthAll_of (m := n) fun d hd => (h d hd).2
    rw [PyData.depth]; omega⟩
theorem ok_along {R C r c : Int} {n : Nat} (hn : 0 < n) : Ship.ok R C ⟨r, c, true, n⟩ = true ↔ 0 ≤ r ∧ r < R ∧ 0 ≤ c ∧ c + n ≤ C := by
  unfold Ship.ok
  rw [Bool.not_true, Bool.and_false, Bool.not_false, Bool.true_and, on_along hn]
theorem ok_down {R C r c : Int} {n : Nat} (hn : 0 < n) : Ship.ok R C ⟨r, c, false, n⟩ = true ↔ 1 < n ∧ 0 ≤ r ∧ r + n ≤ R ∧ 0 ≤ c ∧ c < C := by
  unfold Ship.ok
  rw [Bool.and_eq_true, on_down hn]
  simp
  omega
theorem mem_ships {R C l : Nat} (hl : 1 ≤ l) {s : Ship} : s ∈ ships R C l ↔ s.n = l ∧ s.ok R C = true := by
  obtain ⟨r, c, al, n⟩ := s
  unfold ships shipsAt
  simp only [List.mem_flatMap, List.mem_range, List.mem_append]
  constructor
  · rintro ⟨a, ha, b, hb, h | h⟩
    · by_cases q : b + l ≤ C
      · rw [if_pos q] at h
        have e := List.mem_singleton.mp h
        injection e with e1 e2 e3 e4
        subst e1 e2 e3 e4
        exact ⟨rfl, (ok_along (by omega)).mpr (by omega)⟩
      · rw [if_neg q] at h; cases h
    · by_cases q : a + l ≤ R ∧ 1 < l
      · rw [if_pos q] at h
        have e := List.mem_singleton.mp h
        injection e with e1 e2 e3 e4
        subst e1 e2 e3 e4
        exact ⟨rfl, (ok_down (by omega)).mpr (by omega)⟩
      · rw [if_neg q] at h; cases h
  · rintro ⟨e, h⟩
    have e : n = l := e
    subst e
    cases al with
    | true =>
      have := (ok_along (by omega)).mp h
      refine ⟨r.toNat, by omega, c.toNat, by omega, .inl ?_⟩
      rw [if_pos (by omega), Int.toNat_of_nonneg (by omega), Int.toNat_of_nonneg (by omega)]
      exact List.mem_singleton.mpr rfl
    | false =>
      have := (ok_down (by omega)).mp h
      refine ⟨r.toNat, by omega, c.toNat, by omega, .inr ?_⟩
      rw [if_pos (by omega : r.toNat + n ≤ R ∧ 1 < n), Int.toNat_of_nonneg (by omega), Int.toNat_of_nonneg (by omega)]
      exact List.mem_singleton.mpr rfl
theorem drawn6 {xs : List Int} {a b c d e f : Int} (h : Drawn xs [a, b, c, d, e, f]) : ∃ p q r s t u : Int, xs = [p, q, r, s, t, u] ∧ (0 ≤ p ∧ p < a) ∧ (0 ≤ q ∧ q < b) ∧ (0 ≤ r ∧ r < c) ∧ (0 ≤ s ∧ s < d) ∧ (0 ≤ t ∧ t < e) ∧ (0 ≤ u ∧ u < f) := by
  obtain ⟨hl, hb⟩ := h
  match xs, hl with
  | [p, q, r, s, t, u], _ => exact ⟨p, q, r, s, t, u, rfl, hb 0 _ _ rfl rfl, hb 1 _ _ rfl rfl, hb 2 _ _ rfl rfl, hb 3 _ _ rfl rfl, hb 4 _ _ rfl rfl, hb 5 _ _ rfl rfl⟩
theorem nat_of {i : Int} (h : 0 ≤ i) : ∃ n : Nat, i = (n : Nat) := Int.eq_ofNat_of_zero_le h
abbrev Hid := List Ship
def hD (h : Hid) : PyData := .tuple (h.map Ship.d)
def later (h : Hid) (s : Ship) : Bool := match h.getLast? with
  | none => true
  | some t => decide (t.n ≠ s.n) || t.lt s
def okNext (u : Rule) (h : Hid) (s : Ship) : Bool := later h s && h.all fun t => keepB u t s
def extH (R C : Nat) (u : Rule) (rows : List Hid) (l : Nat) : List Hid := rows.flatMap fun h => ((ships R C l).filter (okNext u h)).map fun s => h ++ [s]
def allH (R C : Nat) (u : Rule) (fleet : List Nat) : List Hid := fleet.foldl (extH R C u) [[]]
theorem extH_len {R C : Nat} {u : Rule} {rows : List Hid} {l : Nat} : (extH R C u rows l).length ≤ rows.length * (R * (C * 2)) := by
  refine flat_le rows fun h _ => ?_
  rw [List.length_map]
  exact Nat.le_trans (List.length_filter_le _ _) ships_len
theorem allH_snoc {R C : Nat} {u : Rule} {fleet : List Nat} {l : Nat} : allH R C u (fleet ++ [l]) = extH R C u (allH R C u fleet) l := by
  unfold allH
  rw [List.foldl_append]; rfl
theorem allH_len {R C : Nat} {u : Rule} (fleet : List Nat) : (allH R C u fleet).length ≤ (R * (C * 2)) ^ fleet.length := by
  suffices h : ∀ n (f : List Nat), f.length = n → (allH R C u f).length ≤ (R * (C * 2)) ^ n from h _ fleet rfl
  intro n
  induction n with
  | zero => intro f hf; have := List.eq_nil_of_length_eq_zero hf; subst this; simp [allH]
  | succ n ih =>
    intro f hf
    have hne : f ≠ [] := fun e => by rw [e] at hf; cases hf
    obtain ⟨g, l, rfl⟩ : ∃ g l, f = g ++ [l] := ⟨f.dropLast, f.getLast hne, (List.dropLast_concat_getLast hne).symm⟩
    rw [List.length_append, List.length_singleton] at hf
    rw [allH_snoc]
    refine Nat.le_trans extH_len ?_
    rw [Nat.pow_succ]
    exact Nat.mul_le_mul_right _ (ih g (by omega))
theorem allH_ns {R C : Nat} {u : Rule} : ∀ (fleet : List Nat) (h : Hid), h ∈ allH R C u fleet → h.map (·.n) = fleet := by
  suffices hs : ∀ n (f : List Nat), f.length = n → ∀ h, h ∈ allH R C u f → h.map (·.n) = f from fun f h hh => hs _ f rfl h hh
  intro n
  induction n with
  | zero => intro f hf h hh; have := List.eq_nil_of_length_eq_zero hf; subst this; simp [allH] at hh; subst hh; rfl
  | succ n ih =>
    intro f hf h hh
    have hne : f ≠ [] := fun e => by rw [e] at hf; cases hf
    obtain ⟨g, l, rfl⟩ : ∃ g l, f = g ++ [l] := ⟨f.dropLast, f.getLast hne, (List.dropLast_concat_getLast hne).symm⟩
    rw [List.length_append, List.length_singleton] at hf
    rw [allH_snoc] at hh
    unfold extH at hh
    simp only [List.mem_flatMap, List.mem_map, List.mem_filter] at hh
    obtain ⟨h0, hh0, s, ⟨hs, _⟩, rfl⟩ := hh
    rw [List.map_append, ih g (by omega) h0 hh0]
    rw [List.map_cons, List.map_nil, mem_shipsN hs]
abbrev fD (fleet : List Nat) : PyData := .tuple (fleet.map fun n => .int (n : Nat))
section
variable {α : Type} [DecidableEq α] {k : α → List Key} {d : α → PyData}
def dA (k : α → List Key) (l : List (α × OV)) : OV := .dt (l.map fun p => (k p.1, p.2))
end
def sK (s : Ship) : List Key := [.inl s.r, .inl s.c, .inr (wayS s.al), .inl (s.n : Int)]
def inner (u : Rule) (S : List Ship) (o : Ship) : OV := dA sK ((S.filter fun s => !keepB u o s).map fun s => (s, .sh (.bool true)))
theorem allH_mem {R C : Nat} {u : Rule} : ∀ (fleet : List Nat) (h : Hid), h ∈ allH R C u fleet → ∀ t ∈ h, ∃ l ∈ fleet, t ∈ ships R C l := by
  suffices hs : ∀ n (f : List Nat), f.length = n → ∀ h, h ∈ allH R C u f → ∀ t ∈ h, ∃ l ∈ f, t ∈ ships R C l from fun f h hh => hs _ f rfl h hh
  intro n
  induction n with
  | zero => intro f hf h hh; have := List.eq_nil_of_length_eq_zero hf; subst this; simp [allH] at hh; subst hh; intro t ht; cases ht
  | succ n ih =>
    intro f hf h hh
    have hne : f ≠ [] := fun e => by rw [e] at hf; cases hf
    obtain ⟨g, l, rfl⟩ : ∃ g l, f = g ++ [l] := ⟨f.dropLast, f.getLast hne, (List.dropLast_concat_getLast hne).symm⟩
    rw [List.length_append, List.length_singleton] at hf
    rw [allH_snoc] at hh
    unfold extH at hh
    simp only [List.mem_flatMap, List.mem_map, List.mem_filter] at hh
    obtain ⟨h0, hh0, s, ⟨hs, _⟩, rfl⟩ := hh
    intro t ht
    rcases List.mem_append.mp ht with ht | ht
    · obtain ⟨l', h1, h2⟩ := ih g (by omega) h0 hh0 t ht
      exact ⟨l', List.mem_append_left _ h1, h2⟩
    · rw [List.mem_singleton.mp ht]
      exact ⟨l, by simp, hs⟩
abbrev nD (n : Nat) : PyData := .int (n : Nat)
theorem EqE.nat : EqE nD 0 := ⟨fun _ => by simp [PyData.canLay0], fun _ => by simp [PyData.depth], fun x y => by rw [eqv_int, decide_eq_true_eq]; exact Int.natCast_inj⟩
structure Game (R C : Nat) (fleet : List Nat) : Prop where
  r1 : 1 ≤ R
  r8 : R ≤ 5
  c1 : 1 ≤ C
  c8 : C ≤ 5
  f1 : fleet ≠ []
  f3 : fleet.length ≤ 3
  fl : ∀ l ∈ fleet, 1 ≤ l ∧ l ≤ 4
  few : (R * (C * 2)) ^ fleet.length ≤ 14000
theorem Game.one {R C : Nat} {fleet : List Nat} (g : Game R C fleet) : Game R C [1] :=
  ⟨g.r1, g.r8, g.c1, g.c8, by simp, by decide, by simp, by have := Nat.mul_le_mul g.r8 (Nat.mul_le_mul_right 2 g.c8); rw [List.length_singleton, Nat.pow_one]; omega⟩
def sheetC (R C : Nat) : List Cell := (List.range R).flatMap fun (r : Nat) => (List.range C).map fun (c : Nat) => ((r : Int), (c : Int))
theorem sheetC_len (R C : Nat) : (sheetC R C).length = R * C := by
  unfold sheetC
  induction R with
  | zero => simp
  | succ n ih => rw [List.range_succ, List.flatMap_append, List.length_append, ih]; simp [Nat.succ_mul]
theorem mem_sheetC {R C : Nat} {p : Cell} : p ∈ sheetC R C ↔ onB R C p = true := by
  unfold sheetC
  simp only [List.mem_flatMap, List.mem_range, List.mem_map]
  rw [onB_iff]
  constructor
  · rintro ⟨r, hr, c, hc, rfl⟩
    exact ⟨by show (0 : Int) ≤ (r : Nat); omega, by show ((r : Nat) : Int) < _; omega, by show (0 : Int) ≤ (c : Nat); omega, by show ((c : Nat) : Int) < _; omega⟩
  · rintro ⟨h1, h2, h3, h4⟩
    obtain ⟨r, e1⟩ := nat_of h1
    obtain ⟨c, e2⟩ := nat_of h3
    exact ⟨r, by omega, c, by omega, by rw [← e1, ← e2]⟩
def InB (p : Cell) : Prop := 0 ≤ p.1 ∧ p.1 < 8 ∧ 0 ≤ p.2 ∧ p.2 < 8
def bx (p : Cell) : Nat := 8 * p.1.toNat + p.2.toNat
theorem bx_inj {p q : Cell} (hp : InB p) (hq : InB q) : bx p = bx q ↔ p = q := by
  obtain ⟨p1, p2⟩ := p
  obtain ⟨q1, q2⟩ := q
  unfold InB at hp hq
  unfold bx
  simp only at hp hq ⊢
  constructor
  · intro h
    have e1 : p1 = q1 := by omega
    have e2 : p2 = q2 := by omega
    rw [e1, e2]
  · intro h
    injection h with e1 e2
    rw [e1, e2]
def Bits (n : Nat) (S : List Cell) : Prop := ∀ i, n.testBit i = S.any fun p => decide (bx p = i)
theorem Bits.nil : Bits 0 [] := fun i => by simp
theorem Bits.one (p : Cell) : Bits (2 ^ bx p) [p] := fun i => by
  rw [Nat.testBit_two_pow]; simp
theorem Bits.or {n m : Nat} {S T : List Cell} (h : Bits n S) (k : Bits m T) : Bits (n ||| m) (S ++ T) := fun i => by
  rw [Nat.testBit_or, h i, k i, List.any_append]
theorem Bits.lt {n k : Nat} {S : List Cell} (h : Bits n S) (hk : ∀ p ∈ S, bx p < k) : n < 2 ^ k := by
  apply Nat.lt_pow_two_of_testBit
  intro i hi
  rw [h i, List.any_eq_false]
  intro p hp
  have := hk p hp
  simp; omega
def sumB (S : List Cell) : Nat := (S.map fun p => 2 ^ bx p).sum
theorem sumB_bits : ∀ (k : Nat) (S : List Cell), S.length = k → (S.Pairwise fun p q => bx p < bx q) → Bits (sumB S) S := by
  intro k
  induction k with
  | zero => intro S hS _; have := List.eq_nil_of_length_eq_zero hS; subst this; exact .nil
  | succ k ih =>
    intro S hS hp
    have hne : S ≠ [] := fun e => by rw [e] at hS; cases hS
    obtain ⟨T, x, rfl⟩ : ∃ T x, S = T ++ [x] := ⟨S.dropLast, S.getLast hne, (List.dropLast_concat_getLast hne).symm⟩
    rw [List.length_append, List.length_singleton] at hS
    rw [List.pairwise_append] at hp
    obtain ⟨hT, _, hx⟩ := hp
    have b := ih T (by omega) hT
    have lt : sumB T < 2 ^ bx x := b.lt fun p hp => hx p hp x (by simp)
    have e : sumB (T ++ [x]) = sumB T ||| 2 ^ bx x := by
      unfold sumB at *
      rw [List.map_append, List.sum_append]
      simp only [List.map_cons, List.map_nil, List.sum_cons, List.sum_nil, Nat.add_zero]
      have := Nat.two_pow_add_eq_or_of_lt lt 1
      rw [Nat.mul_one] at this
      rw [Nat.add_comm, this, Nat.or_comm]
    rw [e]
    exact b.or (.one x)
theorem and_int (a b : Nat) : Builtin.bitAnd (a : Int) (b : Int) = ((a &&& b : Nat) : Int) := by
  unfold Builtin.bitAnd
  simp
theorem not_nat (a : Nat) : (Builtin.bitNot (Builtin.bitNot (a : Int))) = a := by unfold Builtin.bitNot; omega
theorem or_int (a b : Nat) : Builtin.bitOr (a : Int) (b : Int) = ((a ||| b : Nat) : Int) := by
  have h1 : decide (0 ≤ Builtin.bitNot (a : Int)) = false := by unfold Builtin.bitNot; rw [decide_eq_false_iff_not]; omega
  have h2 : decide (0 ≤ Builtin.bitNot (b : Int)) = false := by unfold Builtin.bitNot; rw [decide_eq_false_iff_not]; omega
  unfold Builtin.bitOr Builtin.bitAnd
  simp only [h1, h2, not_nat, Int.toNat_natCast]
theorem andNot_int (a b : Nat) : Builtin.bitAnd (a : Int) (Builtin.bitNot (b : Int)) = (a : Int) - ((a &&& b : Nat) : Int) := by
  have h1 : decide (0 ≤ (a : Int)) = true := by simp
  have h2 : decide (0 ≤ Builtin.bitNot (b : Int)) = false := by unfold Builtin.bitNot; rw [decide_eq_false_iff_not]; omega
  unfold Builtin.bitAnd
  simp only [h1, h2, not_nat, Int.toNat_natCast]
theorem and_bit {n : Nat} {S : List Cell} {p : Cell} (h : Bits n S) (hS : ∀ q ∈ S, InB q) (hp : InB p) : decide (((n &&& 2 ^ bx p : Nat) : Int) = 0) = !decide (p ∈ S) := by
  have e : (n &&& 2 ^ bx p = 0) ↔ n.testBit (bx p) = false := by
    constructor
    · intro h0
      have := congrArg (fun z => Nat.testBit z (bx p)) h0
      simpa [Nat.testBit_and, Nat.testBit_two_pow_self] using this
    · intro h0
      apply Nat.eq_of_testBit_eq
      intro i
      rw [Nat.testBit_and, Nat.testBit_two_pow, Nat.zero_testBit]
      by_cases hi : bx p = i
      · subst hi; rw [h0]; rfl
      · simp [hi]
  have m : n.testBit (bx p) = decide (p ∈ S) := by
    rw [h, Bool.eq_iff_iff, List.any_eq_true, decide_eq_true_eq]
    constructor
    · rintro ⟨q, hq, e⟩
      rw [decide_eq_true_eq, bx_inj (hS q hq) hp] at e
      subst e; exact hq
    · intro hm; exact ⟨p, hm, by simp⟩
  rw [m] at e
  by_cases hm : p ∈ S <;> simp [hm] at e ⊢ <;> simpa using e
theorem sub_bits {n m : Nat} {S T : List Cell} (h : Bits n S) (k : Bits m T) (hS : ∀ q ∈ S, InB q) (hT : ∀ q ∈ T, InB q) : decide ((n : Int) - ((n &&& m : Nat) : Int) = 0) = S.all fun p => decide (p ∈ T) := by
  have e : ((n : Int) - ((n &&& m : Nat) : Int) = 0) ↔ n &&& m = n := by omega
  rw [Bool.eq_iff_iff, decide_eq_true_eq, e, List.all_eq_true]
  constructor
  · intro hn p hp
    have h1 : n.testBit (bx p) = true := by rw [h, List.any_eq_true]; exact ⟨p, hp, by simp⟩
    rw [← hn, Nat.testBit_and, Bool.and_eq_true, k, List.any_eq_true] at h1
    obtain ⟨_, q, hq, e⟩ := h1
    rw [decide_eq_true_eq, bx_inj (hT q hq) (hS p hp)] at e
    subst e; simpa using hq
  · intro ha
    apply Nat.eq_of_testBit_eq
    intro i
    rw [Nat.testBit_and]
    cases hn : n.testBit i with
    | false => rfl
    | true =>
      rw [h, List.any_eq_true] at hn
      obtain ⟨p, hp, e⟩ := hn
      have hm := ha p hp
      rw [decide_eq_true_eq] at e hm
      rw [k, Bool.true_and, List.any_eq_true]
      exact ⟨p, hm, by simpa using e⟩
inductive Ans where
  | water | hit | sunk
  deriving DecidableEq
def Ans.s : Ans → Str
  | .water => "water" | .hit => "hit" | .sunk => "sunk"
abbrev Ans.d (a : Ans) : PyData := .str a.s
theorem Ans.ok (a : Ans) : PyData.strOk a.s = true := by cases a <;> decide +kernel
theorem Ans.inj (a b : Ans) : a.s = b.s ↔ a = b := by cases a <;> cases b <;> decide +kernel
theorem EqE.ans : EqE Ans.d 0 := ⟨fun a => by simp [PyData.canLay0, a.ok], fun _ => by simp [PyData.depth], fun a b => by simp [PyData.eqv, Ans.inj]⟩
def sinkB (s : Ship) (shot : List Cell) : Bool := s.cells.all fun p => decide (p ∈ shot)
def ansOf (h : Hid) (shot : List Cell) (c : Cell) : Ans := match h.find? fun s => decide (c ∈ s.cells) with
  | none => .water
  | some s => if sinkB s (c :: shot) = true then .sunk else .hit
def ansL (h : Hid) : List Cell → List Cell → List Ans
  | _, [] => []
  | shot, c :: cs => ansOf h shot c :: ansL h (c :: shot) cs
def Ship.inB (s : Ship) : Prop := s.n ≤ 1000 ∧ ∀ p ∈ s.cells, InB p
theorem cells_rise {s : Ship} (h : s.inB) : s.cells.Pairwise fun p q => bx p < bx q := by
  obtain ⟨_, h⟩ := h
  by_cases hn : s.n = 0
  · have : s.cells = [] := List.eq_nil_of_length_eq_zero (by rw [len_cells]; exact hn)
    rw [this]; exact .nil
  have h0 := h _ (show s.cells[0]'(by rw [len_cells]; omega) ∈ s.cells from List.getElem_mem _)
  unfold Ship.cells at h0 ⊢
  simp only [List.getElem_map, List.getElem_range] at h0
  unfold InB at h0
  rw [List.pairwise_map]
  refine List.pairwise_lt_range.imp fun {a b} hab => ?_
  unfold bx
  cases e : s.al <;> simp only [e, if_true, Bool.false_eq_true, if_false] at h0 ⊢ <;> omega
theorem cells_nodup (s : Ship) : s.cells.Nodup := by
  unfold Ship.cells
  rw [List.nodup_iff_pairwise_ne, List.pairwise_map]
  refine List.pairwise_lt_range.imp fun {a b} hab e => ?_
  cases h : s.al <;> simp [h] at e <;> omega
theorem bits_ship {s : Ship} (h : s.inB) : Bits (sumB s.cells) s.cells := sumB_bits _ _ rfl (cells_rise h)
theorem bit_q {p : Cell} (hp : InB p) : q_bit_of [cD p] = .ok (.sh (.int ((2 ^ bx p : Nat) : Int))) := by
  obtain ⟨a, b⟩ := p
  unfold InB at hp
  simp only at hp
  have m : gMulI (.sh (.int 8)) (.sh (.int a)) = some (.sh (.int (8 * a))) := gII_ok (mulOk_l (by decide))
  have g : gShlI (.sh (.int 1)) (.sh (.int (8 * a + b))) = some (.sh (.int ((2 ^ bx (a, b) : Nat) : Int))) := by
    have : (1 : Int) * 2 ^ (8 * a + b).toNat = ((2 ^ bx (a, b) : Nat) : Int) := by
      have e : (8 * a + b).toNat = bx (a, b) := by unfold bx; simp only; omega
      rw [e, Int.one_mul]
      exact (Int.natCast_pow 2 (bx (a, b))).symm
    rw [← this]
    exact gII_ok (by unfold shlOk; rw [decide_eq_true_eq]; refine ⟨by omega, by omega, by decide⟩)
  clear hp
  unfold q_bit_of q_bit_of_0 cD
  get_elem_tactic_trivial
theorem sum_cast : ∀ l : List Nat, (l.map fun n => ((n : Nat) : Int)).sum = ((l.sum : Nat) : Int)
  | [] => rfl
  | n :: l => by rw [List.map_cons, List.sum_cons, List.sum_cons, sum_cast l, Int.natCast_add]
theorem ints_nat {α : Type} (f : α → Nat) : ∀ l : List α, intsOf (l.map fun x => PyData.int ((f x : Nat) : Int)) = some (l.map fun x => ((f x : Nat) : Int))
  | [] => rfl
  | n :: l => by rw [List.map_cons, intsOf, ints_nat f l]; rfl
theorem sum_q {α : Type} (f : α → Nat) (l : List α) : dSum (.list (l.map fun x => .int ((f x : Nat) : Int))) = some (.sh (.int (((l.map f).sum : Nat) : Int))) := by
  unfold dSum
  simp only
  rw [ints_nat]
  show some (OV.sh (.int _)) = _
  rw [← sum_cast, List.map_map]; rfl
theorem bits_of_q {s : Ship} (h : s.inB) : q_bits_of [s.d] = .ok (.sh (.int ((sumB s.cells : Nat) : Int))) := by
  have a := cells_q h.1
  have mf := map_fz_shL (e := cD) (xs := s.cells)
  have sq := sum_q (fun p => 2 ^ bx p) s.cells
  have sb : ((s.cells.map fun p => 2 ^ bx p).sum) = sumB s.cells := rfl
  rw [sb] at sq
  have z := szR_le (n := s.cells.length) (x := OV.lst (s.cells.map fun p => OV.sh (.int ((2 ^ bx p : Nat) : Int)))) (by rw [len_cells, sizeLine_eq]; have := h.1; omega)
  have lc : ∀ g : PyData → Ev.R (Option OV), (∀ p ∈ s.cells, g (cD p) = .ok (some (.sh (.int ((2 ^ bx p : Nat) : Int))))) → lcR g (s.cells.map cD) = .ok (s.cells.map fun p => .sh (.int ((2 ^ bx p : Nat) : Int))) := fun g hg => lcR_map _ _ _ hg
  have fl := fz_shL (e := fun p : Cell => PyData.int ((2 ^ bx p : Nat) : Int)) (xs := s.cells)
  unfold q_bits_of q_bits_of_0
  have hb := h.2
  clear h
  get_elem_tactic_trivial
  rw [lc _ fun p hp => by rw [bit_q (hb p hp)]; decreasing_trivial_pre_omega]
  clear hb lc
  get_elem_tactic_trivial
abbrev bitD (s : Ship) : PyData := .int ((sumB s.cells : Nat) : Int)
theorem InB.cons {c : Cell} {S : List Cell} (hc : InB c) (hS : ∀ q ∈ S, InB q) : ∀ q ∈ c :: S, InB q := fun q hq => by
  rcases List.mem_cons.mp hq with rfl | hq
  · exact hc
  · exact hS q hq
theorem answer_turn {s : Ship} {shot : List Cell} {n : Nat} {c : Cell} {v : OV} (hs : s.inB) (hn : Bits n shot) (hS : ∀ q ∈ shot, InB q) (hc : InB c) (hv : fz v = .int ((2 ^ bx c : Nat) : Int)) :
    q_answer_of_1 (.int (n : Nat)) v (bitD s) () = if decide (c ∈ s.cells) = true then .ret (.sh (if sinkB s (c :: shot) = true then Ans.sunk else Ans.hit).d) else .next () := by
  have b := bits_ship hs
  have e1 := and_bit b hs.2 hc
  have b2 := (Bits.one c).or hn
  have e2 := sub_bits b b2 hs.2 (hc.cons hS)
  have e2 : decide (((sumB s.cells : Nat) : Int) - ((sumB s.cells &&& (n ||| 2 ^ bx c) : Nat) : Int) = 0) = sinkB s (c :: shot) := by
    rw [Nat.or_comm n]; exact e2
  have e1 : (Builtin.bitAnd ((sumB s.cells : Nat) : Int) ((2 ^ bx c : Nat) : Int) = 0) = (decide (c ∈ s.cells) = false) := by
    rw [and_int]
    refine propext ⟨fun h => ?_, fun h => ?_⟩
    · rw [h] at e1; simpa using e1
    · rw [h] at e1; simpa using e1
  have e3 : (Builtin.bitAnd ((sumB s.cells : Nat) : Int) (Builtin.bitNot ((n ||| 2 ^ bx c : Nat) : Int)) = 0) = (sinkB s (c :: shot) = true) := by
    rw [andNot_int]
    refine propext ⟨fun h => ?_, fun h => ?_⟩
    · rw [← e2]; simpa using h
    · rw [h] at e2; simpa using e2
  have g2 := or_int n (2 ^ bx c)
  unfold bitD
  generalize sinkB s (c :: shot) = sk at *
  generalize decide (c ∈ s.cells) = mm at *
  generalize sumB s.cells = N at *
  generalize 2 ^ bx c = B at *
  clear hs hn hS hc b b2 e2
  unfold q_answer_of_1 Ans.d Ans.s
  cases mm <;> cases sk <;> (try simp only [Bool.true_eq_false, Bool.false_eq_true] at e1 e3) <;> get_elem_tactic_trivial
theorem answer_q {h : Hid} {shot : List Cell} {n : Nat} {c : Cell} (hh : ∀ s ∈ h, s.inB) (hn : Bits n shot) (hS : ∀ q ∈ shot, InB q) (hc : InB c) :
    q_answer_of [.list (h.map bitD), .int (n : Nat), cD c] = .ok (.sh (ansOf h shot c).d) := by
  have b := bit_q hc
  have t := forO_search (f := fun x s => q_answer_of_1 (.int (n : Nat)) (.sh (.int ((2 ^ bx c : Nat) : Int))) x s) (s := ()) bitD (fun s => decide (c ∈ s.cells)) (fun s => .sh (if sinkB s (c :: shot) = true then Ans.sunk else Ans.hit).d) h fun s hs => answer_turn (hh s hs) hn hS hc fz_sh
  unfold ansOf
  unfold q_answer_of q_answer_of_0
  clear hh hn hS hc
  cases e : h.find? fun s => decide (c ∈ s.cells) with
  | none => rw [e] at t; clear e; simp only [Ans.d, Ans.s] at *; get_elem_tactic_trivial
  | some s => rw [e] at t; clear e; simp only at t ⊢; get_elem_tactic_trivial
abbrev Rec := List (Cell × Ans)
def rD (q : Cell × Ans) : PyData := .tuple [cD q.1, q.2.d]
theorem EqE.row : EqE rD 2 := (EqE.cell.pair EqE.ans)
theorem cols_q {g : PyData → Ev.R (Option OV)} {f : Cell × Ans → OV} (r : Rec) (hg : ∀ q ∈ r, g (rD q) = .ok (some (f q))) : lcR g (r.map rD) = .ok (r.map f) := lcR_map _ _ _ hg
def leftN (s : Ship) (shot : List Cell) : Nat := (s.cells.filter fun p => !decide (p ∈ shot)).length
theorem leftN_nil (s : Ship) : leftN s [] = s.n := by
  unfold leftN
  rw [← len_cells s]
  congr 1
  rw [List.filter_eq_self]
  simp
theorem leftN_cons {s : Ship} {shot : List Cell} {c : Cell} (hc : c ∉ shot) : leftN s (c :: shot) + (if c ∈ s.cells then 1 else 0) = leftN s shot := by
  unfold leftN
  have nd := cells_nodup s
  generalize s.cells = S at *
  induction S with
  | nil => rfl
  | cons p S ih =>
    rw [List.nodup_cons] at nd
    have ih := ih nd.2
    by_cases e : p = c
    · subst e
      have e2 : ∀ T : List Cell, p ∉ T → (T.filter fun q => !decide (q ∈ p :: shot)) = T.filter fun q => !decide (q ∈ shot) := fun T hT => by
        apply List.filter_congr
        intro q hq
        have : q ≠ p := fun z => hT (z ▸ hq)
        simp [this]
      rw [List.filter_cons, List.filter_cons, e2 S nd.1]
      simp [hc]
    · have e3 : (c ∈ p :: S) ↔ c ∈ S := by simp [Ne.symm e]
      rw [List.filter_cons, List.filter_cons]
      simp only [e3]
      by_cases h : p ∈ shot
      · have f1 : (!decide (p ∈ c :: shot)) = false := by simp [h]
        have f2 : (!decide (p ∈ shot)) = false := by simp [h]
        simp only [f1, f2, Bool.false_eq_true, if_false]
        exact ih
      · have f1 : (!decide (p ∈ c :: shot)) = true := by simp [h, e]
        have f2 : (!decide (p ∈ shot)) = true := by simp [h]
        simp only [f1, f2, if_true, List.length_cons]
        generalize (if c ∈ S then 1 else 0) = w at *
        omega
theorem sink_left {s : Ship} {shot : List Cell} : sinkB s shot = decide (leftN s shot = 0) := by
  unfold sinkB leftN
  rw [Bool.eq_iff_iff, List.all_eq_true, decide_eq_true_eq, List.length_eq_zero_iff, List.filter_eq_nil_iff]
  simp
def Apart (h : Hid) : Prop := h.Pairwise fun s t => ∀ p ∈ s.cells, p ∉ t.cells
def leftL (h : Hid) (k : Nat) (shot : List Cell) (c : Cell) : List Nat := (h.take k).map (leftN · (c :: shot)) ++ (h.drop k).map (leftN · shot)
theorem leftL_0 (h : Hid) (shot : List Cell) (c : Cell) : leftL h 0 shot c = h.map (leftN · shot) := by unfold leftL; simp
theorem leftL_end (h : Hid) (shot : List Cell) (c : Cell) : leftL h h.length shot c = h.map (leftN · (c :: shot)) := by unfold leftL; simp
theorem leftL_at {h : Hid} {k : Nat} {s : Ship} {shot : List Cell} {c : Cell} (hk : h[k]? = some s) : (leftL h k shot c)[k]? = some (leftN s shot) := by
  have hl := (List.getElem?_eq_some_iff.mp hk).1
  unfold leftL
  rw [List.getElem?_append_right (by simp; omega)]
  simp only [List.length_map, List.length_take, List.getElem?_map, List.getElem?_drop]
  rw [show k + (k - min k h.length) = k by omega, hk]; rfl
theorem leftL_set {h : Hid} {k : Nat} {s : Ship} {shot : List Cell} {c : Cell} (hk : h[k]? = some s) : (leftL h k shot c).set k (leftN s (c :: shot)) = leftL h (k + 1) shot c := by
  have hl := (List.getElem?_eq_some_iff.mp hk).1
  have hs := (List.getElem?_eq_some_iff.mp hk).2
  unfold leftL
  rw [List.set_append_right _ _ (by simp; omega), List.drop_eq_getElem_cons hl, hs, List.take_succ, hk]
  simp only [List.length_map, List.length_take, List.map_append, List.map_cons]
  rw [show k - min k h.length = 0 by omega, List.set_cons_zero]
  simp
theorem leftL_same {h : Hid} {k : Nat} {s : Ship} {shot : List Cell} {c : Cell} (hk : h[k]? = some s) (hc : c ∉ s.cells) (hn : c ∉ shot) : leftL h (k + 1) shot c = leftL h k shot c := by
  rw [← leftL_set hk]
  have e := leftN_cons (s := s) hn
  rw [if_neg hc, Nat.add_zero] at e
  rw [e]
  exact set_at (leftL_at hk)
theorem ansOf_take {h : Hid} {k : Nat} {s : Ship} {shot : List Cell} {c : Cell} (ha : Apart h) (hk : h[k]? = some s) :
    ansOf (h.take (k + 1)) shot c = if c ∈ s.cells then (if sinkB s (c :: shot) = true then .sunk else .hit) else ansOf (h.take k) shot c := by
  have hl := (List.getElem?_eq_some_iff.mp hk).1
  have hs := (List.getElem?_eq_some_iff.mp hk).2
  rw [List.take_succ, hk]
  unfold ansOf
  rw [List.find?_append]
  by_cases hc : c ∈ s.cells
  · have : (h.take k).find? (fun s => decide (c ∈ s.cells)) = none := by
      rw [List.find?_eq_none]
      intro t ht
      obtain ⟨i, hi⟩ := List.mem_iff_getElem?.mp ht
      rw [List.getElem?_take] at hi
      have ik : i < k := by
        by_cases q : i < k
        · exact q
        · rw [if_neg q] at hi; cases hi
      rw [if_pos ik] at hi
      obtain ⟨hl2, hi2⟩ := List.getElem?_eq_some_iff.mp hi
      have := List.pairwise_iff_getElem.mp ha i k hl2 hl ik
      rw [hi2, hs] at this
      intro z
      rw [decide_eq_true_eq] at z
      exact this c z hc
    rw [this]
    simp [hc]
  · simp [hc]
theorem setL {os : List OV} {i : Int} {o : OV} (h0 : 0 ≤ i) (h1 : i < (os.length : Nat)) : setR (.lst os) (.sh (.int i)) o = .ok (.lst (os.set i.toNat o)) := by
  obtain ⟨j, rfl⟩ := nat_of h0
  have e : setO (.lst os) (.int (j : Nat)) o = some (.lst (os.set j o)) := by
    unfold setO
    simp only
    rw [ixN_of (by omega)]; rfl
  unfold setR
  rw [fz_sh, e]
  rfl
theorem grounds_at {h : Hid} {k : Nat} {s : Ship} (hk : h[k]? = some s) : atI (h.map fun s => PyData.list (s.cells.map cD)) (k : Nat) = some (.list (s.cells.map cD)) := atI_nat (by rw [List.getElem?_map, hk]; rfl)
theorem gSubP_nat {L : List Nat} {k n : Nat} (h : L[k]? = some n) : gSubP (.list (L.map nD)) (.int (k : Nat)) = some (nD n) := by
  have : atI (L.map nD) (k : Nat) = some (nD n) := atI_nat (by rw [List.getElem?_map, h]; rfl)
  unfold gSubP gSubD
  simp only [this]
  rfl
theorem setN {L : List Nat} {k n : Nat} (h : k < L.length) : setR (shL nD L) (.sh (.int (k : Nat))) (.sh (nD n)) = .ok (shL nD (L.set k n)) := by
  unfold shL
  rw [setL (by omega) (by rw [List.length_map]; omega), Int.toNat_natCast, List.map_set]
theorem lawans1 {h : Hid} {k : Nat} {s : Ship} {shot : List Cell} {c : Cell} {v : OV} (ha : Apart h) (hk : h[k]? = some s) (hn : c ∉ shot) (hv : fz v = .list (h.map fun s => .list (s.cells.map cD))) :
    q__law_answers_1 v (cD c) (.int (k : Nat)) (shL nD (leftL h k shot c), .sh (ansOf (h.take k) shot c).d) = .next (shL nD (leftL h (k + 1) shot c), .sh (ansOf (h.take (k + 1)) shot c).d) := by
  have hl := (List.getElem?_eq_some_iff.mp hk).1
  have ga := grounds_at hk
  have gi := EqE.cell.inL (by decide) (neg := false) (x := c) (xs := s.cells) (a := .sh (cD c)) (b := .sh (.list (s.cells.map cD))) fz_sh fz_sh
  rw [Bool.false_xor] at gi
  have at0 := leftL_at (shot := shot) (c := c) hk
  have lset := leftL_set (shot := shot) (c := c) hk
  have lsame := fun h1 => leftL_same (shot := shot) (c := c) hk h1 hn
  have lc := leftN_cons (s := s) hn
  have an := ansOf_take (shot := shot) (c := c) ha hk
  have sl := sink_left (s := s) (shot := c :: shot)
  have ml := fun L => fz_shL (e := nD) (xs := L)
  have g3 := gSubP_nat at0
  rw [an]
  by_cases hc : c ∈ s.cells
  · rw [if_pos hc] at lc ⊢
    have dc : decide (c ∈ s.cells) = true := decide_eq_true hc
    have i1 : ((leftN s shot : Nat) : Int) - 1 = (leftN s (c :: shot) : Nat) := by omega
    have st := setN (L := leftL h k shot c) (k := k) (n := leftN s (c :: shot)) ((List.getElem?_eq_some_iff.mp at0).1)
    rw [lset] at st
    have at1 : (leftL h (k + 1) shot c)[k]? = some (leftN s (c :: shot)) := by
      rw [← lset, List.getElem?_set_self ((List.getElem?_eq_some_iff.mp at0).1)]
    have g4 := gSubP_nat at1
    have z0 : (((leftN s (c :: shot) : Nat) : Int) = 0) = (sinkB s (c :: shot) = true) := by
      rw [sl]
      refine propext ⟨fun h => ?_, fun h => ?_⟩
      · rw [decide_eq_true_eq]; omega
      · rw [decide_eq_true_eq] at h; omega
    have d1 : ∀ b : Bool, dInt (.bool b) = some (.sh (.int (if b = true then 1 else 0))) := fun b => by cases b <;> rfl
    generalize leftL h k shot c = L0 at *
    generalize leftL h (k + 1) shot c = L1 at *
    generalize leftN s (c :: shot) = n1 at *
    generalize leftN s shot = n0 at *
    generalize sinkB s (c :: shot) = sk at *
    clear an sl lset lsame at0 at1 lc ha hk hl
    unfold q__law_answers_1
    cases sk
    · get_elem_tactic_trivial
      rfl
    · get_elem_tactic_trivial
      rfl
  · rw [if_neg hc, lsame hc]
    have dc : decide (c ∈ s.cells) = false := decide_eq_false hc
    clear an sl lset lsame at0 lc ha hk hl
    unfold q__law_answers_1
    get_elem_tactic_trivial
theorem lawans2 {h : Hid} {shot : List Cell} {c : Cell} {v : OV} {acc : List Ans} (ha : Apart h) (hl : h.length ≤ 1000) (hn : c ∉ shot) (hv : fz v = .list (h.map fun s => .list (s.cells.map cD))) (hk : acc.length < 10000) :
    q__law_answers_2 (hD h) v (cD c) (shL nD (h.map (leftN · shot)), shL Ans.d acc) = .next (shL nD (h.map (leftN · (c :: shot))), shL Ans.d (acc ++ [ansOf h shot c])) := by
  obtain ⟨s', h1, h2⟩ := forO_inv (f := fun x s => q__law_answers_1 v (cD c) x s) (fun k s => k ≤ h.length ∧ s = (shL nD (leftL h k shot c), OV.sh (ansOf (h.take k) shot c).d)) ((List.range h.length).map fun z => .int ((z : Nat) : Int)) 0
    (shL nD (h.map (leftN · shot)), OV.sh (ansOf (h.take 0) shot c).d) ⟨Nat.zero_le _, by rw [leftL_0]⟩ (fun k d s hd hp => by
      obtain ⟨_, rfl⟩ := hp
      rw [List.getElem?_map] at hd
      obtain ⟨m, hm, rfl⟩ := Option.map_eq_some_iff.mp hd
      have hm2 := List.getElem?_eq_some_iff.mp hm
      have hlt := hm2.1
      have : m = k := by have := hm2.2; simpa using this.symm
      subst this
      rw [List.length_range] at hlt
      rw [Nat.zero_add]
      exact ⟨_, lawans1 ha (List.getElem?_eq_getElem hlt) hn hv, by omega, rfl⟩)
  obtain ⟨_, rfl⟩ := h2
  rw [List.length_map, List.length_range, Nat.zero_add, leftL_end, List.take_length] at h1
  have w : (ansOf (h.take 0) shot c).d = .str "water" := rfl
  rw [w] at h1
  have ln : ∀ os, os = [OV.sh (hD h)] → dLen (fz (OV.sh (hD h))) = some (.sh (.int (h.length : Nat))) := fun os _ => by unfold hD; rw [fz_sh, dLen_tup, List.length_map]
  have ln := ln _ rfl
  have ap := mutR_some (app_shL (en := Ans.d) (a := acc) (c := ansOf h shot c) (by rw [sizeLine_eq]; omega))
  have rg := rng1R_n (k := h.length) (by omega)
  rw [fz_sh] at ln
  generalize hD h = D at *
  clear ha hl hn hv hk w
  unfold q__law_answers_2
  get_elem_tactic_trivial
theorem lawans_loop {h : Hid} {v : OV} (ha : Apart h) (hl : h.length ≤ 1000) (hv : fz v = .list (h.map fun s => .list (s.cells.map cD))) : ∀ (cs shot : List Cell) (acc : List Ans), (∀ c ∈ cs, c ∉ shot) → cs.Nodup → acc.length + cs.length ≤ 1000 →
    ∃ L, forO (cs.map cD) (fun x s => q__law_answers_2 (hD h) v x s) (shL nD (h.map (leftN · shot)), shL Ans.d acc) = .next (L, shL Ans.d (acc ++ ansL h shot cs))
  | [], shot, acc, _, _, _ => ⟨_, by rw [List.map_nil, forO_nil, ansL, List.append_nil]⟩
  | c :: cs, shot, acc, hn, nd, hk => by
    rw [List.nodup_cons] at nd
    rw [List.length_cons] at hk
    obtain ⟨L, hL⟩ := lawans_loop ha hl hv cs (c :: shot) (acc ++ [ansOf h shot c]) (fun d hd hm => by
      rcases List.mem_cons.mp hm with rfl | hm
      · exact nd.1 hd
      · exact hn d (List.mem_cons_of_mem _ hd) hm) nd.2 (by rw [List.length_append, List.length_singleton]; omega)
    refine ⟨L, ?_⟩
    rw [List.map_cons, forO_cons, lawans2 ha hl (hn c List.mem_cons_self) hv (by omega), O.bind_next, hL, ansL, List.append_assoc]
    rfl
theorem law_answers_q {h : Hid} {cs : List Cell} (hs : ∀ s ∈ h, s.n ≤ 1000) (ha : Apart h) (hl : h.length ≤ 1000) (nd : cs.Nodup) (hc : cs.length ≤ 1000) : q__law_answers [hD h, .list (cs.map cD)] = .ok (shL Ans.d (ansL h [] cs)) := by
  have gf : fz (.lst (h.map fun s : Ship => shL cD s.cells)) = .list (h.map fun s => .list (s.cells.map cD)) := by
    rw [fz_lst, List.map_map]
    congr 1
    exact List.map_congr_left fun s _ => fz_shL
  obtain ⟨L, hL⟩ := lawans_loop ha hl gf cs [] [] (by simp) nd (by simpa using hc)
  rw [List.nil_append] at hL
  have l0 : (h.map fun s => leftN s []) = h.map (·.n) := List.map_congr_left fun s _ => leftN_nil s
  rw [l0] at hL
  have it : itR (.sh (hD h)) = .ok (h.map Ship.d) := by unfold hD; exact itR_tup
  have z := fun (f : Ship → OV) => szR_le (n := h.length) (x := OV.lst (h.map f)) (by rw [sizeLine_eq]; omega)
  have z1 := z fun s => .sh (nD s.n)
  have z2 := z fun s => shL cD s.cells
  have s1 : OV.lst (h.map fun s => .sh (nD s.n)) = shL nD (h.map (·.n)) := by unfold shL; rw [List.map_map]; rfl
  rw [s1] at z1
  have s0 : (OV.lst [] : OV) = shL Ans.d [] := rfl
  have lc : ∀ (f : Ship → OV) (g : PyData → Ev.R (Option OV)), (∀ s ∈ h, g s.d = .ok (some (f s))) → lcR g (h.map Ship.d) = .ok (h.map f) := fun f g hg => lcR_map _ _ _ hg
  have mc := fun s : Ship => fz_shL (e := cD) (xs := s.cells)
  have mm := fun s : Ship => map_fz_shL (e := cD) (xs := s.cells)
  clear hl nd hc z l0 ha gf
  unfold q__law_answers q__law_answers_0
  decreasing_trivial_pre_omega
  rw [it]
  decreasing_trivial_pre_omega
  rw [lc (fun s => .sh (nD s.n)) _ fun s h1 => by
    have a := law_cells_q (hs s h1)
    have b := len_cells s
    have c : dLen (fz (shL cD s.cells)) = some (.sh (.int (s.n : Nat))) := by rw [mc, dLen_list, List.length_map, len_cells]
    rw [mc] at c
    clear hs lc hL h1
    get_elem_tactic_trivial]
  decreasing_trivial_pre_omega
  rw [s1, z1]
  decreasing_trivial_pre_omega
  rw [lc (fun s => shL cD s.cells) _ fun s h1 => by
    have a := law_cells_q (hs s h1)
    clear hs lc hL h1
    get_elem_tactic_trivial]
  decreasing_trivial_pre_omega
  rw [z2]
  decreasing_trivial_pre_omega
  rw [s0, hL]
  decreasing_trivial_pre_omega
theorem near_self (u : Rule) (p : Cell) : near u p p = true := by
  unfold near ab
  rw [Int.sub_self, Int.sub_self]
  cases u <;> decide +kernel
theorem keep_apart {u : Rule} {s t : Ship} (h : keepB u s t = true) : ∀ p ∈ s.cells, p ∉ t.cells := fun p hp hq => by
  unfold keepB at h
  rw [List.all_eq_true] at h
  have := h p hp
  rw [List.all_eq_true] at this
  have := this p hq
  rw [near_self] at this
  cases this
theorem allH_keep {R C : Nat} {u : Rule} : ∀ (fleet : List Nat) (h : Hid), h ∈ allH R C u fleet → h.Pairwise fun s t => keepB u s t = true := by
  suffices hs : ∀ n (f : List Nat), f.length = n → ∀ h, h ∈ allH R C u f → h.Pairwise fun s t => keepB u s t = true from fun f h hh => hs _ f rfl h hh
  intro n
  induction n with
  | zero => intro f hf h hh; have := List.eq_nil_of_length_eq_zero hf; subst this; simp [allH] at hh; subst hh; exact .nil
  | succ n ih =>
    intro f hf h hh
    have hne : f ≠ [] := fun e => by rw [e] at hf; cases hf
    obtain ⟨g, l, rfl⟩ : ∃ g l, f = g ++ [l] := ⟨f.dropLast, f.getLast hne, (List.dropLast_concat_getLast hne).symm⟩
    rw [List.length_append, List.length_singleton] at hf
    rw [allH_snoc] at hh
    unfold extH at hh
    simp only [List.mem_flatMap, List.mem_map, List.mem_filter] at hh
    obtain ⟨h0, hh0, s, ⟨hs, ok⟩, rfl⟩ := hh
    rw [List.pairwise_append]
    refine ⟨ih g (by omega) h0 hh0, List.pairwise_singleton _ _, fun t ht z hz => ?_⟩
    rw [List.mem_singleton.mp hz]
    unfold okNext at ok
    rw [Bool.and_eq_true, List.all_eq_true] at ok
    exact ok.2 t ht
theorem on_inB {R C : Nat} (hR : R ≤ 8) (hC : C ≤ 8) {p : Cell} (h : onB R C p = true) : InB p := by
  rw [onB_iff] at h
  unfold InB
  omega
theorem ship_inB {R C l : Nat} (hl : 1 ≤ l) (h1000 : l ≤ 1000) (hR : R ≤ 8) (hC : C ≤ 8) {s : Ship} (h : s ∈ ships R C l) : s.inB ∧ ∀ p ∈ s.cells, onB R C p = true := by
  rw [mem_ships hl] at h
  obtain ⟨h1, h2⟩ := h
  unfold Ship.ok Ship.on at h2
  rw [Bool.and_eq_true, List.all_eq_true] at h2
  exact ⟨⟨by omega, fun p hp => on_inB hR hC (h2.2 p hp)⟩, h2.2⟩
structure GoodH (R C : Nat) (h : Hid) : Prop where
  inB : ∀ s ∈ h, s.inB
  on : ∀ s ∈ h, ∀ p ∈ s.cells, onB R C p = true
  apart : Apart h
  len : h.length ≤ 3
theorem Game.good {R C : Nat} {u : Rule} {fleet : List Nat} (g : Game R C fleet) {h : Hid} (hh : h ∈ allH R C u fleet) : GoodH R C h := by
  have hm := allH_mem fleet h hh
  have sb : ∀ s ∈ h, s.inB ∧ ∀ p ∈ s.cells, onB R C p = true := fun s hs => by
    obtain ⟨l, hl, hsl⟩ := hm s hs
    have := g.fl l hl
    exact ship_inB this.1 (by omega) (by have := g.r8; omega) (by have := g.c8; omega) hsl
  refine ⟨fun s hs => (sb s hs).1, fun s hs => (sb s hs).2, (allH_keep fleet h hh).imp fun {s t} k => keep_apart k, ?_⟩
  have := congrArg List.length (allH_ns fleet h hh)
  rw [List.length_map] at this
  have := g.f3
  omega
theorem GoodH.law {R C : Nat} {h : Hid} (g : GoodH R C h) {cs : List Cell} (nd : cs.Nodup) (hl : cs.length ≤ 1000) : q__law_answers [hD h, .list (cs.map cD)] = .ok (shL Ans.d (ansL h [] cs)) := law_answers_q (fun s hs => (g.inB s hs).1) g.apart (by have := g.len; omega) nd hl
theorem zip_fst : ∀ {cs : List Cell} {as : List Ans}, cs.length = as.length → (cs.zip as).map (·.1) = cs
  | [], [], _ => rfl
  | c :: cs, a :: as, h => by rw [List.zip_cons_cons, List.map_cons, zip_fst (by simpa using h)]
theorem zip_snd : ∀ {cs : List Cell} {as : List Ans}, cs.length = as.length → (cs.zip as).map (·.2) = as
  | [], [], _ => rfl
  | c :: cs, a :: as, h => by rw [List.zip_cons_cons, List.map_cons, zip_snd (by simpa using h)]
structure RecOk (R C : Nat) (r : Rec) : Prop where
  nodup : (r.map (·.1)).Nodup
  on : ∀ q ∈ r, onB R C q.1 = true
  len : r.length ≤ 100
theorem RecOk.inB {R C : Nat} {fleet : List Nat} (g : Game R C fleet) {r : Rec} (h : RecOk R C r) : ∀ q ∈ r, InB q.1 := fun q hq => on_inB (by have := g.r8; omega) (by have := g.c8; omega) (h.on q hq)
structure GameW (R C : Nat) (u : Rule) (fleet : List Nat) : Prop where
  r1 : 1 ≤ R
  c1 : 1 ≤ C
  r8 : R ≤ 8
  c8 : C ≤ 8
  f3 : fleet.length ≤ 3
  fl : ∀ l ∈ fleet, 1 ≤ l ∧ l ≤ 8
  few : ∀ k, k ≤ fleet.length → (allH R C u (fleet.take k)).length ≤ 20000
theorem Game.w {R C : Nat} {u : Rule} {fleet : List Nat} (g : Game R C fleet) : GameW R C u fleet where
  r1 := g.r1
  c1 := g.c1
  r8 := Nat.le_trans g.r8 (by decide)
  c8 := Nat.le_trans g.c8 (by decide)
  f3 := g.f3
  fl := fun l hl => ⟨(g.fl l hl).1, Nat.le_trans (g.fl l hl).2 (by decide)⟩
  few := fun k hk => by
    have h := allH_len (R := R) (C := C) (u := u) (fleet.take k)
    have h1 : 1 ≤ R * (C * 2) := Nat.mul_pos g.r1 (Nat.mul_pos g.c1 (by decide))
    have h2 : (R * (C * 2)) ^ (fleet.take k).length ≤ (R * (C * 2)) ^ fleet.length := Nat.pow_le_pow_right h1 (by rw [List.length_take]; omega)
    have := g.few
    omega
section
variable {R C : Nat} {u : Rule} {fleet : List Nat}
theorem GameW.lt (g : GameW R C u fleet) (k : Nat) (hk : k ≤ fleet.length) : (allH R C u (fleet.take k)).length < sizeLine := by
  have := g.few k hk
  rw [sizeLine_eq]; omega
theorem GameW.le (g : GameW R C u fleet) : (allH R C u fleet).length ≤ 20000 := by
  have := g.few fleet.length (Nat.le_refl _)
  rwa [List.take_length] at this
theorem GameW.good (g : GameW R C u fleet) {h : Hid} (hh : h ∈ allH R C u fleet) : GoodH R C h := by
  have hm := allH_mem fleet h hh
  have sb : ∀ s ∈ h, s.inB ∧ ∀ p ∈ s.cells, onB R C p = true := fun s hs => by
    obtain ⟨l, hl, hsl⟩ := hm s hs
    have := g.fl l hl
    exact ship_inB this.1 (by omega) g.r8 g.c8 hsl
  refine ⟨fun s hs => (sb s hs).1, fun s hs => (sb s hs).2, (allH_keep fleet h hh).imp fun {s t} k => keep_apart k, ?_⟩
  have := congrArg List.length (allH_ns fleet h hh)
  rw [List.length_map] at this
  have := g.f3
  omega
end
def noHiding : Exn := ⟨"NoHiding", .none⟩
inductive Ref | hiding | number | many | cell | shot | nothing | counts | over | text | row
  deriving DecidableEq
def Ref.w : Ref → Str
  | .hiding => "hiding" | .number => "number" | .many => "many" | .cell => "cell" | .shot => "shot" | .nothing => "nothing" | .counts => "counts" | .over => "over" | .text => "text" | .row => "row"
def Ref.cls : Ref → Str
  | .hiding => "NoHiding" | .number => "NoNumber" | .many => "TooMany" | .cell => "NoCell" | .shot => "NoShot" | .nothing => "NothingLeft" | .counts => "NoCounts" | .over => "Over" | .text => "NoText" | .row => "NoRow"
def Ref.bs (r : Ref) : List Bool := ([Ref.hiding, .number, .many, .cell, .shot, .nothing, .counts, .over, .text, .row].map fun z => decide (z = r)) ++ [true]
theorem Ref.mem (r : Ref) : r.cls ∈ excNames := by cases r <;> decide
theorem Ref.flags (r : Ref) : flagsL r.cls = r.bs := by cases r <;> decide +kernel
theorem Ref.flagsO (r : Ref) : Ev.flagsO r.cls = shL .bool r.bs := by
  unfold Ev.flagsO shL
  rw [r.flags]
theorem mutR_shL {α : Type} {e : α → PyData} {xs : List α} {o : OV} (h : xs.length < sizeLine) : mutR mApp (shL e xs) [o] = .ok (.lst (xs.map (fun x => .sh (e x)) ++ [o]), .sh .none) := mutR_app (by rw [List.length_map]; exact h)
theorem EqE.hid : EqE hD 2 := EqE.ship.tup
section
variable {R C : Nat} {u : Rule} {fleet : List Nat}
end
abbrev recD (r : Rec) : PyData := .list (r.map rD)
section
variable {R C : Nat} {u : Rule} {fleet : List Nat}
end
section
variable {R C : Nat} {u : Rule} {fleet : List Nat}
end
theorem cut_init {α : Type} (xs : List α) : Ev.cutD xs none (some (-1)) = xs.dropLast := by
  unfold Ev.cutD
  rw [HT.sIx_none]
  have e : HT.sIx xs.length xs.length (some (-1)) = xs.length - 1 := by
    show (if (-1 : Int) < 0 then ((-1 : Int) + (xs.length : Int)).toNat else min (-1 : Int).toNat xs.length) = _
    rw [if_pos (by decide)]
    omega
  rw [e, List.drop_zero, List.dropLast_eq_take]
  simp
def gcells (h : Hid) : List Cell := h.flatMap Ship.cells
theorem insAll_new : ∀ {m l : List Cell}, (l ++ m).Nodup → insAll l m = l ++ m
  | [], l, _ => by simp [insAll]
  | p :: m, l, h => by
    have hp : p ∉ l := fun hm => (List.nodup_append.mp h).2.2 p hm p List.mem_cons_self rfl
    show insAll (insC l p) m = _
    unfold insC
    rw [if_neg hp]
    have h' : (l ++ [p] ++ m).Nodup := by simpa using h
    rw [insAll_new h']
    simp
theorem Bits.perm {n : Nat} {S T : List Cell} (p : S.Perm T) (h : Bits n S) : Bits n T := fun i => by
  rw [h i]
  apply Bool.eq_iff_iff.mpr
  simp only [List.any_eq_true]
  exact ⟨fun ⟨x, hx, k⟩ => ⟨x, p.mem_iff.mp hx, k⟩, fun ⟨x, hx, k⟩ => ⟨x, p.mem_iff.mpr hx, k⟩⟩
theorem sumB_perm {S T : List Cell} (p : S.Perm T) : sumB S = sumB T := by
  unfold sumB
  exact (p.map _).sum_nat
theorem bits_nodup {S : List Cell} (nd : S.Nodup) (hS : ∀ p ∈ S, InB p) : Bits (sumB S) S := by
  let T := S.mergeSort fun p q => decide (bx p ≤ bx q)
  have p : T.Perm S := List.mergeSort_perm ..
  have so : T.Pairwise fun p q => decide (bx p ≤ bx q) = true := List.pairwise_mergeSort (le := fun p q => decide (bx p ≤ bx q)) (fun a b c h1 h2 => by simp at *; omega) (fun a b => by simp; omega) S
  have nT : T.Nodup := p.nodup_iff.mpr nd
  have st : T.Pairwise fun p q => bx p < bx q := by
    refine (List.pairwise_iff_getElem.mpr fun i j hi hj hij => ?_)
    have a : bx T[i] ≤ bx T[j] := of_decide_eq_true (List.pairwise_iff_getElem.mp so i j hi hj hij)
    have b := List.pairwise_iff_getElem.mp nT i j hi hj hij
    have c : bx T[i] ≠ bx T[j] := fun e => b ((bx_inj (hS _ (p.mem_iff.mp (List.getElem_mem hi))) (hS _ (p.mem_iff.mp (List.getElem_mem hj)))).mp e)
    omega
  have := sumB_bits _ T rfl st
  rw [sumB_perm p] at this
  exact this.perm p
def cnt (rows : List Hid) (p : Cell) : Nat := (rows.filter fun h => decide (p ∈ gcells h)).length
section
variable {R C : Nat} {u : Rule} {fleet : List Nat}
theorem fz_tup {xs : List OV} : fz (.tup xs) = .tuple (xs.map fz) := by rw [fz, fzs_eq]
end
def ndB (l : List Cell) : Bool := decide l.Nodup
theorem ndB_iff {l : List Cell} : ndB l = true ↔ l.Nodup := by unfold ndB; exact decide_eq_true_iff
theorem ndB_mid {l xs : List Cell} {p : Cell} (h : p ∈ l) : ndB (l ++ p :: xs) = false := by
  rw [Bool.eq_false_iff, ne_eq, ndB_iff]
  intro z
  exact (List.nodup_append.mp z).2.2 p h p List.mem_cons_self rfl
theorem dist_loop {f : PyData → OV → O OV} {P : Cell → Bool} (hf : ∀ (p : Cell) (l : List Cell), l.length < 1000000 → f (cD p) (dtC l) = if p ∈ l ∨ P p = false then .ret (.sh (.bool false)) else .next (dtC (l ++ [p]))) :
    ∀ (xs l : List Cell), l.Nodup → l.length + xs.length ≤ 1000000 → forO (xs.map cD) f (dtC l) = if ndB (l ++ xs) = true ∧ xs.all P = true then .next (dtC (l ++ xs)) else .ret (.sh (.bool false))
  | [], l, nd, _ => by
    rw [List.append_nil, if_pos ⟨ndB_iff.mpr nd, rfl⟩]; rfl
  | x :: xs, l, nd, hl => by
    rw [List.length_cons] at hl
    rw [List.map_cons, forO_cons, hf x l (by omega), List.all_cons]
    by_cases h1 : x ∈ l
    · rw [if_pos (.inl h1), ndB_mid h1, if_neg (by simp)]; rfl
    · by_cases h2 : P x = false
      · rw [if_pos (.inr h2), h2, if_neg (by simp)]; rfl
      · rw [if_neg (by rintro (h | h) <;> contradiction)]
        rw [Bool.not_eq_false] at h2
        show forO (xs.map cD) f (dtC (l ++ [x])) = _
        rw [dist_loop hf xs (l ++ [x]) (List.nodup_append.mpr ⟨nd, by simp, fun a ha b hb e => h1 (by rw [List.mem_singleton.mp hb] at e; exact e ▸ ha)⟩) (by rw [List.length_append]; simp; omega), List.append_assoc, h2, Bool.true_and]
        rfl
theorem put1 {p : Cell} {l : List Cell} (hp : p ∉ l) (hl : l.length < 1000000) : setR (dtC l) (.sh (cD p)) (.sh (.bool true)) = .ok (dtC (l ++ [p])) := by
  have := set_dtC (l := l) (p := p) (by rw [sizeLine_eq]; omega)
  unfold insC at this
  rwa [if_neg hp] at this
theorem ipC {p : Cell} {l : List Cell} : gInP false (cD p) (fz (dtC l)) = some (.bool (decide (p ∈ l))) := by rw [fz_dtC, inP_dtD, Bool.false_xor]
theorem apart1 (p : Cell) (l : List Cell) (hl : l.length < 1000000) : q_lie_apart_1 (cD p) (dtC l) = if p ∈ l ∨ (fun _ : Cell => true) p = false then .ret (.sh (.bool false)) else .next (dtC (l ++ [p])) := by
  have ip := ipC (p := p) (l := l)
  by_cases h : p ∈ l
  · rw [if_pos (.inl h)]
    rw [decide_eq_true h] at ip
    unfold q_lie_apart_1
    get_elem_tactic_trivial
  · rw [if_neg (by simp [h])]
    rw [decide_eq_false h] at ip
    have st := put1 h hl
    unfold q_lie_apart_1
    get_elem_tactic_trivial
theorem lawapart1 (p : Cell) (l : List Cell) (hl : l.length < 1000000) : q__law_apart_1 (cD p) (dtC l) = if p ∈ l ∨ (fun _ : Cell => true) p = false then .ret (.sh (.bool false)) else .next (dtC (l ++ [p])) := apart1 p l hl
theorem all_true {xs : List Cell} : xs.all (fun _ : Cell => true) = true := by simp
theorem apart2 (s : Ship) (l : List Cell) (hs : s.n ≤ 1000) (nd : l.Nodup) (hl : l.length ≤ 900000) : q_lie_apart_2 s.d (dtC l) = if ndB (l ++ s.cells) = true then .next (dtC (l ++ s.cells)) else .ret (.sh (.bool false)) := by
  have c := cells_q hs
  have lc := len_cells s
  have lp := dist_loop apart1 s.cells l nd (by omega)
  rw [all_true] at lp
  simp only [and_true] at lp
  have it : itR (shL cD s.cells) = .ok (s.cells.map cD) := itR_shL
  unfold q_lie_apart_2
  by_cases h : ndB (l ++ s.cells) = true
  · rw [if_pos h] at lp ⊢
    clear h
    get_elem_tactic_trivial
  · rw [if_neg h] at lp ⊢
    clear h
    get_elem_tactic_trivial
theorem lawapart2 (s : Ship) (l : List Cell) (hs : s.n ≤ 1000) (nd : l.Nodup) (hl : l.length ≤ 900000) : q__law_apart_2 s.d (dtC l) = if ndB (l ++ s.cells) = true then .next (dtC (l ++ s.cells)) else .ret (.sh (.bool false)) := by
  have c := law_cells_q hs
  have lc := len_cells s
  have lp := dist_loop lawapart1 s.cells l nd (by omega)
  rw [all_true] at lp
  simp only [and_true] at lp
  have it : itR (shL cD s.cells) = .ok (s.cells.map cD) := itR_shL
  unfold q__law_apart_2
  by_cases h : ndB (l ++ s.cells) = true
  · rw [if_pos h] at lp ⊢
    clear h
    get_elem_tactic_trivial
  · rw [if_neg h] at lp ⊢
    clear h
    get_elem_tactic_trivial
theorem net4 {R C : Nat} (p : Cell) (l : List Cell) (hl : l.length < 1000000) : q_is_net_4 (.int (R : Nat)) (.int (C : Nat)) (cD p) (dtC l) = if p ∈ l ∨ onB R C p = false then .ret (.sh (.bool false)) else .next (dtC (l ++ [p])) := by
  have ip := ipC (p := p) (l := l)
  have s0 : Ev.gSub (.sh (cD p)) (.sh (.int 0)) = some (.sh (.int p.1)) := by unfold cD; rw [gSub_tup, atI_l0]; rfl
  have s1 : Ev.gSub (.sh (cD p)) (.sh (.int 1)) = some (.sh (.int p.2)) := by unfold cD; rw [gSub_tup, atI_l1]; rfl
  have e : onB R C p = ((decide (0 ≤ p.1) && decide (p.1 < R)) && (decide (0 ≤ p.2) && decide (p.2 < C))) := rfl
  by_cases h : p ∈ l
  · rw [if_pos (.inl h)]
    rw [decide_eq_true h] at ip
    unfold q_is_net_4
    clear e
    get_elem_tactic_trivial
  · rw [decide_eq_false h] at ip
    have st := put1 h hl
    by_cases h2 : onB R C p = true
    · rw [if_neg (by simp [h, h2])]
      rw [onB_iff] at h2
      obtain ⟨a, b, c, d⟩ := h2
      clear e hl
      unfold q_is_net_4
      get_elem_tactic_trivial
    · rw [if_pos (.inr (by simpa using h2))]
      rw [Bool.not_eq_true, e] at h2
      clear e hl
      cases c1 : decide (0 ≤ p.1) <;> cases c2 : decide (p.1 < (R : Int)) <;> cases c3 : decide (0 ≤ p.2) <;> cases c4 : decide (p.2 < (C : Int)) <;> simp only [c1, c2, c3, c4] at h2 <;> first | (exfalso; revert h2; decide) | (clear h2; unfold q_is_net_4; get_elem_tactic_trivial)
def hitB (cells : List Cell) (s : Ship) : Bool := s.cells.any fun p => decide (p ∈ cells)
theorem anyC_q {xs : List Cell} {f : Cell → Bool} : dAll (fun bs => bs.any id) (.list (xs.map fun p => .bool (f p))) = some (.sh (.bool (xs.any f))) := by
  show (boolsOf (xs.map fun p => .bool (f p))).map _ = _
  rw [boolsOf_map]
  simp [List.any_map]
theorem net1 {cells : List Cell} {v : OV} (hv : fz v = dtD cells) {n : Nat} (hn : n ≤ 1000) (al : Bool) (r c : Int) : q_is_net_1 (.int (n : Nat)) v (.str (wayS al)) (.int r) (.int c) () = if hitB cells ⟨r, c, al, n⟩ = true then .next () else .ret (.sh (.bool false)) := by
  have cq := cells_q (s := ⟨r, c, al, n⟩) hn
  have ln := len_cells ⟨r, c, al, n⟩
  unfold Ship.d at cq
  unfold hitB
  simp only at cq ln
  generalize Ship.cells ⟨r, c, al, n⟩ = S at *
  have it := itR_shL (e := cD) (xs := S)
  have lc := lcR_map (f := fun x => Ev.R.bind (ofOR (Ev.gIn false (.sh x) (.sh (dtD cells)))) fun o => .ok (some o)) cD (fun p => OV.sh (.bool (decide (p ∈ cells)))) S fun p _ => by rw [in_dtD, Bool.false_xor]; rfl
  have da := anyC_q (xs := S) (f := fun p => decide (p ∈ cells))
  have sz : ∀ x : OV, szR S.length x = .ok x := fun x => szR_ok (by rw [sizeLine_eq]; omega)
  generalize S.any (fun p => decide (p ∈ cells)) = B at *
  clear ln
  unfold q_is_net_1
  cases B <;> get_elem_tactic_trivial
def wide (C n : Nat) (b : Bool) : Nat := if b = true then C + 1 - n else C
theorem rng1R_i {i : Int} {k : Nat} (h : i.toNat = k) (h0 : -1000000 ≤ i) (h1 : i ≤ 1000000) : rng1R (.sh (.int i)) = .ok ((List.range k).map fun z => .int ((z : Nat) : Int)) := by
  rw [rng1R_ok (rngOk_of (by omega) (by omega)), h, upto_eq]
theorem net2 {cells : List Cell} {v : OV} (hv : fz v = dtD cells) {C n : Nat} (hn1 : 1 ≤ n) (hn : n ≤ 1000) (hC : C ≤ 1000) (al : Bool) (r : Int) : q_is_net_2 (.int (C : Nat)) (.int (n : Nat)) v (.str (wayS al)) (.int r) () = if ((List.range (wide C n al)).all fun (c : Nat) => hitB cells ⟨r, c, al, n⟩) = true then .next () else .ret (.sh (.bool false)) := by
  have lp := forO_all (f := fun x s => q_is_net_1 (.int (n : Nat)) v (.str (wayS al)) (.int r) x s) (s := ()) (o := .sh (.bool false)) (fun (z : Nat) => .int ((z : Nat) : Int)) (fun (c : Nat) => hitB cells ⟨r, c, al, n⟩) (List.range (wide C n al)) fun z _ => net1 hv hn al r z
  generalize ((List.range (wide C n al)).all fun (c : Nat) => hitB cells ⟨r, c, al, n⟩) = B at *
  have ga := gEq_along (b := al)
  unfold q_is_net_2
  cases al
  · have mu := gMul_n (i := (n : Int) - 1) (j := 0) (by omega)
    have rg := rng1R_i (i := (C : Int) - ((n : Int) - 1) * 0) (k := wide C n false) (by unfold wide; simp) (by omega) (by omega)
    cases B <;> get_elem_tactic_trivial
  · have mu := gMul_n (i := (n : Int) - 1) (j := 1) (by omega)
    have rg := rng1R_i (i := (C : Int) - ((n : Int) - 1) * 1) (k := wide C n true) (by unfold wide; simp; omega) (by omega) (by omega)
    cases B <;> get_elem_tactic_trivial
def sweepB (R C n : Nat) (cells : List Cell) (al : Bool) : Bool := (List.range (wide R n !al)).all fun (r : Nat) => (List.range (wide C n al)).all fun (c : Nat) => hitB cells ⟨r, c, al, n⟩
theorem net3 {cells : List Cell} {v : OV} (hv : fz v = dtD cells) {R C n : Nat} (hn1 : 1 ≤ n) (hn : n ≤ 1000) (hR : R ≤ 1000) (hC : C ≤ 1000) (al : Bool) : q_is_net_3 (.int (R : Nat)) (.int (C : Nat)) (.int (n : Nat)) v (.str (wayS al)) () = if sweepB R C n cells al = true then .next () else .ret (.sh (.bool false)) := by
  have lp := forO_all (f := fun x s => q_is_net_2 (.int (C : Nat)) (.int (n : Nat)) v (.str (wayS al)) x s) (s := ()) (o := .sh (.bool false)) (fun (z : Nat) => .int ((z : Nat) : Int)) (fun (r : Nat) => (List.range (wide C n al)).all fun (c : Nat) => hitB cells ⟨r, c, al, n⟩) (List.range (wide R n !al)) fun z _ => net2 hv hn1 hn hC al z
  unfold sweepB
  generalize ((List.range (wide R n !al)).all fun (r : Nat) => (List.range (wide C n al)).all fun (c : Nat) => hitB cells ⟨r, c, al, n⟩) = B at *
  have ga := gEq_down (b := al)
  unfold q_is_net_3
  cases al
  · have mu := gMul_n (i := (n : Int) - 1) (j := 1) (by omega)
    simp only [Bool.not_false] at lp
    have rg := rng1R_i (i := (R : Int) - ((n : Int) - 1) * 1) (k := wide R n (!false)) (by unfold wide; simp; omega) (by omega) (by omega)
    cases B <;> get_elem_tactic_trivial
  · have mu := gMul_n (i := (n : Int) - 1) (j := 0) (by omega)
    simp only [Bool.not_true] at lp
    have rg := rng1R_i (i := (R : Int) - ((n : Int) - 1) * 0) (k := wide R n (!true)) (by unfold wide; simp) (by omega) (by omega)
    cases B <;> get_elem_tactic_trivial
def netB (R C n : Nat) (cells : List Cell) : Bool := (ndB cells && cells.all (onB R C)) && (sweepB R C n cells true && sweepB R C n cells false)
theorem is_net_q {R C n : Nat} (hn1 : 1 ≤ n) (hn : n ≤ 1000) (hR : R ≤ 1000) (hC : C ≤ 1000) {cells : List Cell} (hl : cells.length ≤ 100000) : q_is_net [.int (R : Nat), .int (C : Nat), .int (n : Nat), .list (cells.map cD)] = .ok (.sh (.bool (netB R C n cells))) := by
  have l4 := dist_loop (net4 (R := R) (C := C)) cells [] .nil (by simp; omega)
  have d0 : (OV.dt []) = dtC [] := rfl
  rw [← d0, List.nil_append] at l4
  have n3 := fun al => net3 (cells := cells) (v := dtC cells) (fz_dtC cells) hn1 hn hR hC al
  have w1 : wayS true = "along" := rfl
  have w2 : wayS false = "down" := rfl
  have n3a := n3 true
  have n3b := n3 false
  rw [w1] at n3a
  rw [w2] at n3b
  unfold netB
  clear d0 n3 w1 w2
  unfold q_is_net q_is_net_0
  by_cases h : ndB cells = true ∧ cells.all (onB R C) = true
  · rw [if_pos h] at l4
    obtain ⟨h1, h2⟩ := h
    generalize sweepB R C n cells true = S1 at *
    generalize sweepB R C n cells false = S2 at *
    cases S1 <;> cases S2 <;> get_elem_tactic_trivial
  · rw [if_neg h] at l4
    have e : (ndB cells && cells.all (onB R C)) = false := by
      rw [Bool.eq_false_iff, ne_eq, Bool.and_eq_true]; exact h
    rw [e]
    clear n3a n3b h e
    get_elem_tactic_trivial
theorem forO_gO {β γ : Type} {f : PyData → OV → O OV} (e : β → PyData) (en : γ → OV) (g : β → List γ) (B : Nat) : ∀ (xs : List β) (acc : List γ),
    (∀ x ∈ xs, ∀ a : List γ, a.length + (g x).length ≤ B → f (e x) (.lst (a.map en)) = .next (.lst ((a ++ g x).map en))) → acc.length + (xs.flatMap g).length ≤ B →
    forO (xs.map e) f (.lst (acc.map en)) = .next (.lst ((acc ++ xs.flatMap g).map en))
  | [], acc, _, _ => by rw [List.flatMap_nil, List.append_nil]; rfl
  | x :: xs, acc, h, hB => by
    rw [List.flatMap_cons, List.length_append] at hB
    rw [List.map_cons, forO_cons, h x List.mem_cons_self acc (by omega), O.bind_next, forO_gO e en g B xs _ (fun y hy => h y (List.mem_cons_of_mem _ hy)) (by rw [List.length_append]; omega), List.flatMap_cons, List.append_assoc]
def runO (s : Ship) : OV := shL cD s.cells
def runShips (R C n : Nat) (al : Bool) : List Ship := (List.range (wide R n !al)).flatMap fun (r : Nat) => (List.range (wide C n al)).map fun (c : Nat) => (⟨r, c, al, n⟩ : Ship)
theorem wide_le {C n : Nat} (hn : 1 ≤ n) (al : Bool) : wide C n al ≤ C := by unfold wide; split <;> omega
theorem runs3 {n : Nat} (hn : n ≤ 1000) (r c : Int) (acc : List Ship) (ha : acc.length < 1000000) : q__law_runs_3 (.int (n : Nat)) (.int r) (.int c) (.lst (acc.map runO)) = .next (.lst ((acc ++ [(⟨r, c, true, n⟩ : Ship)]).map runO)) := by
  have mu := fun o => mutR_app (os := acc.map runO) (o := o) (by rw [List.length_map, sizeLine_eq]; omega)
  have e : ((List.range n).map fun k : Nat => OV.sh (cD (r, c + k))) = (Ship.cells ⟨r, c, true, n⟩).map fun p => .sh (cD p) := by simp [Ship.cells]
  have rg := rng1R_n (k := n) (by omega)
  unfold q__law_runs_3
  decreasing_trivial_pre_omega
  rw [rg]
  decreasing_trivial_pre_omega
  rw [lcR_map _ fun k : Nat => .sh (cD (r, c + k))]
  · decreasing_trivial_pre_omega
    rw [szR_le (by rw [List.length_range, sizeLine_eq]; omega)]
    decreasing_trivial_pre_omega
    rw [mu, e, List.map_append]
    rfl
  · intro k _; decreasing_trivial_pre_omega; rfl
theorem runs1 {n : Nat} (hn : n ≤ 1000) (r c : Int) (acc : List Ship) (ha : acc.length < 1000000) : q__law_runs_1 (.int (n : Nat)) (.int r) (.int c) (.lst (acc.map runO)) = .next (.lst ((acc ++ [(⟨r, c, false, n⟩ : Ship)]).map runO)) := by
  have mu := fun o => mutR_app (os := acc.map runO) (o := o) (by rw [List.length_map, sizeLine_eq]; omega)
  have e : ((List.range n).map fun k : Nat => OV.sh (cD (r + k, c))) = (Ship.cells ⟨r, c, false, n⟩).map fun p => .sh (cD p) := by simp [Ship.cells]
  have rg := rng1R_n (k := n) (by omega)
  unfold q__law_runs_1
  decreasing_trivial_pre_omega
  rw [rg]
  decreasing_trivial_pre_omega
  rw [lcR_map _ fun k : Nat => .sh (cD (r + k, c))]
  · decreasing_trivial_pre_omega
    rw [szR_le (by rw [List.length_range, sizeLine_eq]; omega)]
    decreasing_trivial_pre_omega
    rw [mu, e, List.map_append]
    rfl
  · intro k _; decreasing_trivial_pre_omega; rfl
theorem runs4 {C n : Nat} (hn1 : 1 ≤ n) (hn : n ≤ 1000) (hC : C ≤ 1000) (r : Int) (acc : List Ship) (ha : acc.length + (wide C n true) ≤ 900000) : q__law_runs_4 (.int (C : Nat)) (.int (n : Nat)) (.int r) (.lst (acc.map runO)) = .next (.lst ((acc ++ (List.range (wide C n true)).map fun (c : Nat) => (⟨r, c, true, n⟩ : Ship)).map runO)) := by
  have lp := forO_gO (f := fun x s => q__law_runs_3 (.int (n : Nat)) (.int r) x s) (fun (z : Nat) => .int ((z : Nat) : Int)) runO (fun (c : Nat) => [(⟨r, c, true, n⟩ : Ship)]) 900000 (List.range (wide C n true)) acc (fun z _ a ha => runs3 hn r z a (by simp at ha; omega)) (by rw [flat_one, List.length_map, List.length_range]; exact ha)
  rw [flat_one] at lp
  have rg := rng1R_i (i := (C : Int) - (n : Int) + 1) (k := wide C n true) (by unfold wide; simp; omega) (by omega) (by omega)
  unfold q__law_runs_4
  get_elem_tactic_trivial
theorem runs2 {C n : Nat} (hn : n ≤ 1000) (hC : C ≤ 1000) (r : Int) (acc : List Ship) (ha : acc.length + C ≤ 900000) : q__law_runs_2 (.int (C : Nat)) (.int (n : Nat)) (.int r) (.lst (acc.map runO)) = .next (.lst ((acc ++ (List.range C).map fun (c : Nat) => (⟨r, c, false, n⟩ : Ship)).map runO)) := by
  have lp := forO_gO (f := fun x s => q__law_runs_1 (.int (n : Nat)) (.int r) x s) (fun (z : Nat) => .int ((z : Nat) : Int)) runO (fun (c : Nat) => [(⟨r, c, false, n⟩ : Ship)]) 900000 (List.range C) acc (fun z _ a ha => runs1 hn r z a (by simp at ha; omega)) (by rw [flat_one, List.length_map, List.length_range]; exact ha)
  rw [flat_one] at lp
  have rg := rng1R_n (k := C) (by omega)
  unfold q__law_runs_2
  get_elem_tactic_trivial
theorem runShips_len {R C n : Nat} (hn : 1 ≤ n) (al : Bool) : (runShips R C n al).length ≤ R * C := by
  have h1 := wide_le (C := C) hn al
  have h2 := wide_le (C := R) hn (!al)
  have : ∀ m, (((List.range m).flatMap fun (r : Nat) => (List.range (wide C n al)).map fun (c : Nat) => (⟨r, c, al, n⟩ : Ship))).length ≤ m * C := fun m => by
    induction m with
    | zero => simp
    | succ m ih =>
      rw [List.range_succ, List.flatMap_append, List.length_append]
      simp only [List.flatMap_cons, List.flatMap_nil, List.append_nil, List.length_map, List.length_range]
      rw [Nat.succ_mul]; omega
  exact Nat.le_trans (this _) (Nat.mul_le_mul_right _ h2)
theorem runs_q {R C n : Nat} (hn1 : 1 ≤ n) (hn : n ≤ 1000) (hR : R ≤ 100) (hC : C ≤ 100) : q__law_runs [.int (R : Nat), .int (C : Nat), .int (n : Nat)] = .ok (.lst ((runShips R C n true ++ if 1 < n then runShips R C n false else []).map runO)) := by
  have hRC : R * C ≤ 100 * 100 := Nat.mul_le_mul hR hC
  have hw := wide_le (C := C) hn1 true
  have len1 := runShips_len (R := R) (C := C) hn1 true
  have len2 := runShips_len (R := R) (C := C) hn1 false
  have lp := forO_gO (f := fun x s => q__law_runs_4 (.int (C : Nat)) (.int (n : Nat)) x s) (fun (z : Nat) => .int ((z : Nat) : Int)) runO (fun (r : Nat) => (List.range (wide C n true)).map fun (c : Nat) => (⟨r, c, true, n⟩ : Ship)) 800000 (List.range R) [] (fun z _ a ha => runs4 hn1 hn (by omega) z a (by simp at ha; omega)) (by
    show 0 + (runShips R C n true).length ≤ _
    omega)
  have lp : forO ((List.range R).map fun (z : Nat) => .int ((z : Nat) : Int)) (fun x s => q__law_runs_4 (.int (C : Nat)) (.int (n : Nat)) x s) (.lst []) = .next (.lst ((runShips R C n true).map runO)) := lp
  have rg := rng1R_n (k := R) (by omega)
  by_cases h : 1 < n
  · have lq := forO_gO (f := fun x s => q__law_runs_2 (.int (C : Nat)) (.int (n : Nat)) x s) (fun (z : Nat) => .int ((z : Nat) : Int)) runO (fun (r : Nat) => (List.range C).map fun (c : Nat) => (⟨r, c, false, n⟩ : Ship)) 800000 (List.range (wide R n true)) (runShips R C n true) (fun z _ a ha => runs2 hn (by omega) z a (by simp at ha; omega)) (by
      show (runShips R C n true).length + (runShips R C n false).length ≤ _
      omega)
    have lq : forO ((List.range (wide R n true)).map fun (z : Nat) => .int ((z : Nat) : Int)) (fun x s => q__law_runs_2 (.int (C : Nat)) (.int (n : Nat)) x s) (.lst ((runShips R C n true).map runO)) = .next (.lst ((runShips R C n true ++ runShips R C n false).map runO)) := lq
    have gt : gGt (.sh (.int (n : Nat))) (.sh (.int 1)) = some (.sh (.bool true)) := congrArg (fun b => some (OV.sh (.bool b))) (decide_eq_true (show (1 : Int) < (n : Int) by omega))
    have mu := gMul_n (i := (R : Int) - (n : Int) + 1) (j := 1) (by omega)
    have rg2 := rng1R_i (i := ((R : Int) - (n : Int) + 1) * 1) (k := wide R n true) (by unfold wide; simp; omega) (by omega) (by omega)
    rw [if_pos h]
    clear len1 len2 hw hRC h
    unfold q__law_runs q__law_runs_0
    get_elem_tactic_trivial
    rfl
  · have gt : gGt (.sh (.int (n : Nat))) (.sh (.int 1)) = some (.sh (.bool false)) := congrArg (fun b => some (OV.sh (.bool b))) (decide_eq_false (show ¬ (1 : Int) < (n : Int) by omega))
    have mu := gMul_n (i := (R : Int) - (n : Int) + 1) (j := 0) (by omega)
    have rg2 := rng1R_i (i := ((R : Int) - (n : Int) + 1) * 0) (k := 0) (by simp) (by omega) (by omega)
    rw [if_neg h, List.append_nil]
    rw [List.range_zero, List.map_nil] at rg2
    clear len1 len2 hw hRC h
    unfold q__law_runs q__law_runs_0
    get_elem_tactic_trivial
theorem pairsT_cells : ∀ cells : List Cell, pairsT (cells.map fun p => .tuple [cD p, .bool true]) = some (cells.map fun p => (cK p, .bool true))
  | [] => rfl
  | p :: cells => by
    have ih := pairsT_cells cells
    rw [List.map_cons, pairsT, ih]
    rfl
theorem fold_cells : ∀ (cells l : List Cell), ((cells.map fun p => (cK p, PyData.bool true)).foldl (fun l q => putG l q.1 (.sh q.2)) (l.map fun p => (cK p, OV.sh (.bool true)))) = (insAll l cells).map fun p => (cK p, OV.sh (.bool true))
  | [], l => rfl
  | p :: cells, l => by
    rw [List.map_cons, List.foldl_cons, put_dtC, fold_cells cells (insC l p)]
    rfl
theorem dict_cells {cells : List Cell} (h : cells.length ≤ 1000000) : dDict2 (.list (cells.map fun p => .tuple [cD p, .bool true])) = some (dtC (insAll [] cells)) := by
  unfold dDict2
  simp only [pairsT_cells]
  rw [if_pos (by rw [List.length_map, sizeLine_eq]; omega)]
  have := fold_cells cells []
  rw [List.map_nil] at this
  rw [this]
  rfl
theorem dLen_dtD {l : List Cell} : dLen (dtD l) = some (.sh (.int (l.length : Nat))) := by
  have : dLen (dtD l) = some (.sh (.int ((l.map fun p => (cD p, PyData.bool true)).length : Nat))) := rfl
  rw [this, List.length_map]
theorem insAll_eq_len : ∀ (m l : List Cell), l.Nodup → ((insAll l m).length = l.length + m.length ↔ (l ++ m).Nodup)
  | [], l, nd => by simp [insAll, nd]
  | x :: xs, l, nd => by
    show (insAll (insC l x) xs).length = _ ↔ _
    unfold insC
    by_cases h : x ∈ l
    · rw [if_pos h]
      have := insAll_len (m := xs) (l := l)
      constructor
      · intro e
        rw [List.length_cons] at e
        omega
      · intro z
        have := ndB_mid (xs := xs) h
        rw [Bool.eq_false_iff, ne_eq, ndB_iff] at this
        exact absurd z this
    · rw [if_neg h]
      have ih := insAll_eq_len xs (l ++ [x]) (List.nodup_append.mpr ⟨nd, by simp, fun a ha b hb e => h (by rw [List.mem_singleton.mp hb] at e; exact e ▸ ha)⟩)
      rw [List.append_assoc] at ih
      rw [List.length_append, List.length_singleton] at ih
      rw [List.length_cons]
      have e : l.length + 1 + xs.length = l.length + (xs.length + 1) := by omega
      rw [e] at ih
      exact ih
theorem lawnet1 {cells : List Cell} {v : OV} (hv : fz v = dtD cells) {s : Ship} (hn : s.n ≤ 1000) : q__law_is_net_1 v (.list (s.cells.map cD)) () = if hitB cells s = true then .next () else .ret (.sh (.bool false)) := by
  have ln := len_cells s
  unfold hitB
  generalize Ship.cells s = S at *
  have lc := lcR_filter (f := fun x => Ev.R.bind (Ev.R.bind (ofOR (Ev.gIn false (.sh x) (.sh (dtD cells)))) toBR) fun b => if b = true then .ok (some (.sh x)) else .ok none) cD (fun p => decide (p ∈ cells)) (fun p => OV.sh (cD p)) S fun p _ => by
    rw [in_dtD, Bool.false_xor]
    simp only [ofOR_some, Ev.R.bind_ok, toBR_b]
  have e : (S.filter fun p => decide (p ∈ cells)).isEmpty = !(S.any fun p => decide (p ∈ cells)) := by
    rw [Bool.eq_iff_iff, List.isEmpty_iff, List.filter_eq_nil_iff]
    simp
  have eq := EqE.cell.eqN (by decide) (neg := false) (xs := S.filter fun p => decide (p ∈ cells))
  rw [e, Bool.false_xor] at eq
  unfold shL at eq
  have fl := List.length_filter_le (fun p => decide (p ∈ cells)) S
  generalize (S.filter fun p => decide (p ∈ cells)) = FS at *
  have sz : ∀ x : OV, szR FS.length x = .ok x := fun x => szR_ok (by rw [sizeLine_eq]; omega)
  have sz0 : ∀ x : OV, szR 0 x = .ok x := fun x => szR_ok (Nat.le_of_ble_eq_true rfl)
  generalize S.any (fun p => decide (p ∈ cells)) = B at *
  clear ln fl e hn
  unfold q__law_is_net_1
  cases B <;> get_elem_tactic_trivial
theorem all_runs {R C n : Nat} {cells : List Cell} {al : Bool} : (runShips R C n al).all (hitB cells) = sweepB R C n cells al := by
  unfold runShips sweepB
  rw [List.all_flatMap]
  congr 1
  funext r
  rw [List.all_map]
  rfl
theorem sweep_one {R C : Nat} {cells : List Cell} : sweepB R C 1 cells false = sweepB R C 1 cells true := by
  unfold sweepB wide
  simp only [Bool.not_false, Bool.not_true, if_true, Bool.false_eq_true, if_false, Nat.add_sub_cancel]
  have e : ∀ r c : Nat, hitB cells ⟨r, c, false, 1⟩ = hitB cells ⟨r, c, true, 1⟩ := fun r c => by unfold hitB Ship.cells; simp
  simp only [e]
theorem law_is_net_q {R C n : Nat} (hn1 : 1 ≤ n) (hn : n ≤ 1000) (hR : R ≤ 100) (hC : C ≤ 100) {cells : List Cell} (hl : cells.length ≤ 100000) : q__law_is_net [.int (R : Nat), .int (C : Nat), .int (n : Nat), .list (cells.map cD)] = .ok (.sh (.bool (netB R C n cells))) := by
  have l1 := lcR_map (f := fun x => Ev.R.ok (some (OV.sh (.tuple [x, .bool true])))) cD (fun p => OV.sh (.tuple [cD p, .bool true])) cells fun p _ => rfl
  have di := dict_cells (cells := cells) (by omega)
  have il := insAll_eq_len cells [] .nil
  rw [List.length_nil, Nat.zero_add, List.nil_append] at il
  have fd : fz (dtC (insAll [] cells)) = dtD (insAll [] cells) := fz_dtC _
  have dl := dLen_dtD (l := insAll [] cells)
  have sz : ∀ x : OV, szR cells.length x = .ok x := fun x => szR_ok (by rw [sizeLine_eq]; omega)
  have dl2 : dLen (.list (cells.map cD)) = some (.sh (.int (cells.length : Nat))) := by rw [dLen_list, List.length_map]
  have ne := EqE.nat.eq (by decide) (neg := true) (a := .sh (.int ((insAll [] cells).length : Nat))) (b := .sh (.int (cells.length : Nat))) (x := (insAll [] cells).length) (y := cells.length) fz_sh fz_sh
  unfold netB
  by_cases h : ndB cells = true
  · have en := il.mpr (ndB_iff.mp h)
    have ei : insAll [] cells = cells := insAll_new (l := []) (ndB_iff.mp h)
    rw [ei] at di fd dl ne
    rw [decide_eq_true rfl, Bool.xor_self] at ne
    rw [h, Bool.true_and]
    have fl := List.length_filter_le (fun p => !onB R C p) cells
    have l2 : ∀ F : PyData → Ev.R (Option OV), (∀ p ∈ cells, F (cD p) = if (!onB R C p) = true then .ok (some (.sh (cD p))) else .ok none) → lcR F (cells.map cD) = .ok ((cells.filter fun p => !onB R C p).map fun p => .sh (cD p)) := fun F hF => lcR_filter cD _ _ cells hF
    have e2 : (cells.filter fun p => !onB R C p).isEmpty = cells.all (onB R C) := by
      rw [Bool.eq_iff_iff, List.isEmpty_iff, List.filter_eq_nil_iff]
      simp
    have eq := EqE.cell.eqN (by decide) (neg := true) (xs := cells.filter fun p => !onB R C p)
    rw [e2, Bool.true_xor] at eq
    unfold shL at eq
    have sz0 : ∀ x : OV, szR 0 x = .ok x := fun x => szR_ok (Nat.le_of_ble_eq_true rfl)
    have rq := runs_q hn1 hn hR hC
    have ir : itR (.lst ((runShips R C n true ++ if 1 < n then runShips R C n false else []).map runO)) = .ok ((runShips R C n true ++ if 1 < n then runShips R C n false else []).map fun s => .list (s.cells.map cD)) := by
      rw [itR_lst, List.map_map]
      exact congrArg Ev.R.ok (List.map_congr_left fun s _ => fz_shL)
    have lp := forO_all (f := fun x s => q__law_is_net_1 (dtC cells) x s) (s := ()) (o := .sh (.bool false)) (fun s : Ship => .list (s.cells.map cD)) (hitB cells) (runShips R C n true ++ if 1 < n then runShips R C n false else []) fun s hs => lawnet1 (fz_dtC cells) (by
      have : s.n = n := by
        rcases List.mem_append.mp hs with h | h
        · unfold runShips at h
          simp only [List.mem_flatMap, List.mem_map] at h
          obtain ⟨_, _, _, _, rfl⟩ := h; rfl
        · split at h
          · unfold runShips at h
            simp only [List.mem_flatMap, List.mem_map] at h
            obtain ⟨_, _, _, _, rfl⟩ := h; rfl
          · cases h
      omega)
    have ea : (runShips R C n true ++ if 1 < n then runShips R C n false else []).all (hitB cells) = (sweepB R C n cells true && sweepB R C n cells false) := by
      rw [List.all_append, all_runs]
      by_cases z : 1 < n
      · rw [if_pos z, all_runs]
      · rw [if_neg z]
        obtain rfl : n = 1 := by omega
        rw [sweep_one]
        simp
    rw [ea] at lp
    generalize (runShips R C n true ++ if 1 < n then runShips R C n false else []) = RS at *
    generalize (sweepB R C n cells true && sweepB R C n cells false) = SW at *
    have z2 : ∀ x : OV, szR (cells.filter fun p => !onB R C p).length x = .ok x := fun x => szR_ok (by rw [sizeLine_eq]; omega)
    generalize (cells.filter fun p => !onB R C p) = FC at *
    have inner : ∀ p : Cell, ∀ x : OV, True := fun _ _ => trivial
    clear il h en ei ea e2 fl inner
    unfold q__law_is_net q__law_is_net_0
    generalize cells.all (onB (R : Int) (C : Int)) = AL at *
    have s0 : ∀ p : Cell, Ev.gSub (.sh (cD p)) (.sh (.int 0)) = some (.sh (.int p.1)) := fun p => by unfold cD; rw [gSub_tup, atI_l0]; rfl
    have s1 : ∀ p : Cell, Ev.gSub (.sh (cD p)) (.sh (.int 1)) = some (.sh (.int p.2)) := fun p => by unfold cD; rw [gSub_tup, atI_l1]; rfl
    cases AL
    · get_elem_tactic_trivial
      rw [l2]
      · get_elem_tactic_trivial
      · intro p hp
        have s0 := s0 p
        have s1 := s1 p
        have e : onB R C p = ((decide (0 ≤ p.1) && decide (p.1 < R)) && (decide (0 ≤ p.2) && decide (p.2 < C))) := rfl
        rw [e]
        clear e
        cases c1 : decide (0 ≤ p.1) <;> cases c2 : decide (p.1 < (R : Int)) <;> cases c3 : decide (0 ≤ p.2) <;> cases c4 : decide (p.2 < (C : Int)) <;> get_elem_tactic_trivial
    · get_elem_tactic_trivial
      rw [l2]
      · cases SW <;> get_elem_tactic_trivial
      · intro p hp
        have s0 := s0 p
        have s1 := s1 p
        have e : onB R C p = ((decide (0 ≤ p.1) && decide (p.1 < R)) && (decide (0 ≤ p.2) && decide (p.2 < C))) := rfl
        rw [e]
        clear e
        cases c1 : decide (0 ≤ p.1) <;> cases c2 : decide (p.1 < (R : Int)) <;> cases c3 : decide (0 ≤ p.2) <;> cases c4 : decide (p.2 < (C : Int)) <;> get_elem_tactic_trivial
  · have e : ndB cells = false := by simpa using h
    have : decide ((insAll [] cells).length = cells.length) = false := decide_eq_false fun z => h (ndB_iff.mpr (il.mp z))
    rw [this] at ne
    rw [e]
    clear il h e this
    unfold q__law_is_net q__law_is_net_0
    get_elem_tactic_trivial
theorem sizes_i (cell : Int) : ∃ R C n : Int, (1 ≤ R ∧ R ≤ 60) ∧ (1 ≤ C ∧ C ≤ 60) ∧ (1 ≤ n ∧ n ≤ 60) ∧ q__law_sizes [.int cell] = .ok (.sh (.tuple [.int R, .int C, .int n])) := by
  obtain ⟨xs, hd, hx⟩ := drawn_q cell [6, 60, 60, 60, 6, 12] (by
    intro s hs
    simp only [List.mem_cons, List.not_mem_nil, or_false] at hs
    rcases hs with rfl | rfl | rfl | rfl | rfl | rfl <;> omega) (by simp)
  obtain ⟨way, rows, columns, length, times, more, rfl, h0, h1, h2, h3, h4, h5⟩ := drawn6 hx
  clear hx
  simp only [List.map_cons, List.map_nil] at hd
  have way6 : way = 0 ∨ way = 1 ∨ way = 2 ∨ way = 3 ∨ way = 4 ∨ way = 5 := by omega
  have k4 : ∀ x y : PyData, atI [x, y] (4 - 4) = some x := fun _ _ => rfl
  have k5 : ∀ x y : PyData, atI [x, y] (5 - 4) = some y := fun _ _ => rfl
  have b1 : 0 ≤ length % 15 ∧ length % 15 < 15 := by omega
  have b2 : 0 ≤ times % 3 ∧ times % 3 < 3 := by omega
  have b3 : 0 ≤ more % 3 ∧ more % 3 < 3 := by omega
  have qp : (0 : Int) < 1 + length % 15 := by omega
  have mu1 := gMul_n (i := 1 + length % 15) (j := 1 + times % 3) (by omega)
  have mu2 := gMul_n (i := 1 + length % 15) (j := 1 + more % 3) (by omega)
  have mo1 := Int.emod_nonneg rows (show (1 + length % 15) ≠ 0 by omega)
  have mo2 := Int.emod_lt_of_pos rows qp
  have mo3 := Int.emod_nonneg columns (show (1 + length % 15) ≠ 0 by omega)
  have mo4 := Int.emod_lt_of_pos columns qp
  have p1 : 1 ≤ (1 + length % 15) * (1 + times % 3) := by
    have := Int.mul_le_mul (show 1 ≤ 1 + length % 15 by omega) (show 1 ≤ 1 + times % 3 by omega) (by omega) (by omega)
    omega
  have p2 : 1 ≤ (1 + length % 15) * (1 + more % 3) := by
    have := Int.mul_le_mul (show 1 ≤ 1 + length % 15 by omega) (show 1 ≤ 1 + more % 3 by omega) (by omega) (by omega)
    omega
  have mn : ∀ x : Int, 1 ≤ x → 1 ≤ min2 60 x ∧ min2 60 x ≤ 60 := fun x hx => by
    unfold min2
    split <;> omega
  unfold q__law_sizes q__law_sizes_0
  rcases way6 with rfl | rfl | rfl | rfl | rfl | rfl
  · refine ⟨1 + rows % 12, 1 + columns % 12, 1 + length % 6, by omega, by omega, by omega, ?_⟩
    clear h0 h1 h2 h3 h4 h5 b1 b2 b3 mo1 mo2 mo3 mo4 p1 p2 mn
    get_elem_tactic_trivial
  · refine ⟨1 + rows % 12, 1 + columns % 12, 1 + length % 6, by omega, by omega, by omega, ?_⟩
    clear h0 h1 h2 h3 h4 h5 b1 b2 b3 mo1 mo2 mo3 mo4 p1 p2 mn
    get_elem_tactic_trivial
  · refine ⟨1 + rows, 1 + columns, 1 + length, by omega, by omega, by omega, ?_⟩
    clear h0 h1 h2 h3 h4 h5 b1 b2 b3 mo1 mo2 mo3 mo4 p1 p2 mn
    get_elem_tactic_trivial
  · refine ⟨1 + rows, 1 + columns, 1 + length % 15, by omega, by omega, by omega, ?_⟩
    clear h0 h1 h2 h3 h4 h5 b1 b2 b3 mo1 mo2 mo3 mo4 p1 p2 mn
    get_elem_tactic_trivial
  · refine ⟨min2 60 ((1 + length % 15) * (1 + times % 3) + rows % (1 + length % 15)), min2 60 ((1 + length % 15) * (1 + more % 3) + columns % (1 + length % 15)), 1 + length % 15, mn _ (by omega), mn _ (by omega), by omega, ?_⟩
    clear h0 h1 h2 h3 h4 h5 b1 b2 b3 mo1 mo2 mo3 mo4 p1 p2 mn
    get_elem_tactic_trivial
  · refine ⟨min2 60 ((1 + length % 15) * (1 + times % 3) + rows % (1 + length % 15)), 1 + columns % (1 + length % 15), 1 + length % 15, mn _ (by omega), by omega, by omega, ?_⟩
    clear h0 h1 h2 h3 h4 h5 b1 b2 b3 mo1 mo2 mo3 mo4 p1 p2 mn
    get_elem_tactic_trivial
theorem sizes_q (cell : Int) : ∃ R C n : Nat, (1 ≤ R ∧ R ≤ 60) ∧ (1 ≤ C ∧ C ≤ 60) ∧ (1 ≤ n ∧ n ≤ 60) ∧ q__law_sizes [.int cell] = .ok (.sh (.tuple [.int (R : Nat), .int (C : Nat), .int (n : Nat)])) := by
  obtain ⟨R, C, n, h1, h2, h3, hq⟩ := sizes_i cell
  obtain ⟨R, rfl⟩ := nat_of (show 0 ≤ R by omega)
  obtain ⟨C, rfl⟩ := nat_of (show 0 ≤ C by omega)
  obtain ⟨n, rfl⟩ := nat_of (show 0 ≤ n by omega)
  exact ⟨R, C, n, by omega, by omega, by omega, hq⟩
theorem shot_bits {r : Rec} (nd : (r.map (·.1)).Nodup) (hC : ∀ q ∈ r, InB q.1) : Bits (sumB (r.map (·.1))) (r.map (·.1)).reverse := by
  have h1 := bits_nodup nd fun p hp => by
    obtain ⟨q, hq, rfl⟩ := List.mem_map.mp hp
    exact hC q hq
  exact h1.perm (List.reverse_perm _).symm
section
variable {R C : Nat} {u : Rule} {fleet : List Nat}
end
end Com
namespace Com
open PySem PySem.Spec L2 Ev
open PyProof.Rows hiding St cnt
local macro_rules | `(tactic| decreasing_trivial_pre_omega) => `(tactic| simp only [fz_tup, ↓XR.bind_ok, ↓XR.bind_exc, ↓OX.bind_next, ↓OX.bind_ret, ↓OX.bind_exc, XR.bind_ok, XR.bind_exc, XR.of_ok, XR.of_exc, OX.bind_next, OX.bind_ret, OX.bind_exc, OX.of_ok, OX.of_exc, OX.lift_next, OX.lift_ret, OX.lift_exc, OX.fin_next, OX.fin_ret, OX.fin_exc, forX_nil, forX_cons, tryX_next, tryX_ret, andX_b, orX_b, mkX_ok, mkX_exc, fz_shL, itR_shL, ownR_shL, dLenP_l, dLenP_t, gIsiP_ll, gIsiP_tt, gIsiP_tl, gIsiP_lt, raiseO_s, raiseKO_s, tryO_next, tryO_ret, tryO_stk, gSubO_eq, orP_some, ↓R.bind_ok, ↓R.bind_exc, ↓R.bind_stk, ↓O.bind_next, ↓O.bind_ret, ↓O.bind_exc, ↓O.bind_stk, R.bind_ok, R.bind_exc, R.bind_stk, O.bind_next, O.bind_ret, O.bind_exc, O.bind_stk, O.of_ok, O.of_exc, O.of_stk, O.fin_next, O.fin_ret, O.fin_exc, ofOR_some, ofPR_some, toBR_b, andR_b, orR_b, chR_b, iR_i, noX_ok, szR_lit, Option.isSome_some, Option.isSome_none, mutR_app, mutR_some, ownR_lst, ownR_dk, ownR_dt, itR_tup, itR_list, itR_lst, unT_l2, unT_l3, unT_l4, unT_l5, unT_l6, unT_l7, unL_l2, unL_l3, unL_l4, unL_l5, unL_l6, unL_l7, nd0, nd1, nd2, nd3, nd4, nd5, nd6, par2R_ok, gAdd_int, gII_ok, gI_int, gOrd_int, gEq_int, fz_sh, fz_lst, gNot_b, g1, g1_one, gi_int_none, gi_int_bool, gi_int_int, gi_int_str, gi_int_list, gi_int_tuple, gi_bool_none, gi_bool_bool, gi_bool_int, gi_bool_str, gi_bool_list, gi_bool_tuple, gi_str_none, gi_str_bool, gi_str_int, gi_str_str, gi_str_list, gi_str_tuple, gi_list_none, gi_list_bool, gi_list_int, gi_list_str, gi_list_list, gi_list_tuple, gi_tuple_none, gi_tuple_bool, gi_tuple_int, gi_tuple_str, gi_tuple_list, gi_tuple_tuple, gMax_two, mApp_ok, ownT_lst, dLen_list, dLen_tup, gSub_list, gSub_tup, gSub_lst, atI_l0, atI_l1, atI_l2, atI_l3, atI_l4, atI_l5, atI_l6, Option.map_some, dInt_b, dInt_i, dAbs_i, List.map_cons, List.map_nil, List.cons_append, List.nil_append, if_true, if_false, Bool.false_eq_true, decide_true, decide_false, Bool.false_xor, Bool.true_xor, decide_eq_true_eq, List.length_cons, List.length_nil, nl0, nl1, nl2, nl3, nl4, nl5, nl6, nl7, nl8, nl9, nl10, nl11, nl12, nl13, nl14, nl15, nl16, nl17, nl18, nl19, nl20, Nat.reduceAdd, Nat.reduceSub, Nat.reduceMul, Int.reduceLT, Int.reduceEq, Int.reduceSub, Int.reduceAdd, Int.reduceNeg, Int.reduceLE, Int.reduceMul, Int.reduceToNat, sz_le, sz_lt, Nat.reduceLeDiff, Nat.reduceLT, Bool.not_true, Bool.not_false, Bool.true_and, Bool.and_true, Bool.false_and, Bool.and_false, Bool.true_or, Bool.or_true, Bool.false_or, Bool.or_false, rite_and, rite_or, rb_and, rb_or, Bool.decide_eq_true, Bool.decide_and, Bool.decide_or, gAdd_LL, gAdd_Ll, gAdd_lL, gAdd_lst, gAdd_TT, map_sh_fz, map_fz_shL, List.length_map, gEq_bool, eq_self, forO_nil, forO_cons, lcR_nil, rng1R_ok, rng2R_ok])
local macro_rules | `(tactic| get_elem_tactic_trivial) => `(tactic| simp only [fz_tup, ↓XR.bind_ok, ↓XR.bind_exc, ↓OX.bind_next, ↓OX.bind_ret, ↓OX.bind_exc, XR.bind_ok, XR.bind_exc, XR.of_ok, XR.of_exc, OX.bind_next, OX.bind_ret, OX.bind_exc, OX.of_ok, OX.of_exc, OX.lift_next, OX.lift_ret, OX.lift_exc, OX.fin_next, OX.fin_ret, OX.fin_exc, forX_nil, forX_cons, tryX_next, tryX_ret, andX_b, orX_b, mkX_ok, mkX_exc, fz_shL, itR_shL, ownR_shL, dLenP_l, dLenP_t, gIsiP_ll, gIsiP_tt, gIsiP_tl, gIsiP_lt, raiseO_s, raiseKO_s, tryO_next, tryO_ret, tryO_stk, gSubO_eq, orP_some, ↓R.bind_ok, ↓R.bind_exc, ↓R.bind_stk, ↓O.bind_next, ↓O.bind_ret, ↓O.bind_exc, ↓O.bind_stk, R.bind_ok, R.bind_exc, R.bind_stk, O.bind_next, O.bind_ret, O.bind_exc, O.bind_stk, O.of_ok, O.of_exc, O.of_stk, O.fin_next, O.fin_ret, O.fin_exc, ofOR_some, ofPR_some, toBR_b, andR_b, orR_b, chR_b, iR_i, noX_ok, szR_lit, Option.isSome_some, Option.isSome_none, mutR_app, mutR_some, ownR_lst, ownR_dk, ownR_dt, itR_tup, itR_list, itR_lst, unT_l2, unT_l3, unT_l4, unT_l5, unT_l6, unT_l7, unL_l2, unL_l3, unL_l4, unL_l5, unL_l6, unL_l7, nd0, nd1, nd2, nd3, nd4, nd5, nd6, par2R_ok, gAdd_int, gII_ok, gI_int, gOrd_int, gEq_int, fz_sh, fz_lst, gNot_b, g1, g1_one, gi_int_none, gi_int_bool, gi_int_int, gi_int_str, gi_int_list, gi_int_tuple, gi_bool_none, gi_bool_bool, gi_bool_int, gi_bool_str, gi_bool_list, gi_bool_tuple, gi_str_none, gi_str_bool, gi_str_int, gi_str_str, gi_str_list, gi_str_tuple, gi_list_none, gi_list_bool, gi_list_int, gi_list_str, gi_list_list, gi_list_tuple, gi_tuple_none, gi_tuple_bool, gi_tuple_int, gi_tuple_str, gi_tuple_list, gi_tuple_tuple, gMax_two, mApp_ok, ownT_lst, dLen_list, dLen_tup, gSub_list, gSub_tup, gSub_lst, atI_l0, atI_l1, atI_l2, atI_l3, atI_l4, atI_l5, atI_l6, Option.map_some, dInt_b, dInt_i, dAbs_i, List.map_cons, List.map_nil, List.cons_append, List.nil_append, if_true, if_false, Bool.false_eq_true, decide_true, decide_false, Bool.false_xor, Bool.true_xor, decide_eq_true_eq, List.length_cons, List.length_nil, nl0, nl1, nl2, nl3, nl4, nl5, nl6, nl7, nl8, nl9, nl10, nl11, nl12, nl13, nl14, nl15, nl16, nl17, nl18, nl19, nl20, Nat.reduceAdd, Nat.reduceSub, Nat.reduceMul, Int.reduceLT, Int.reduceEq, Int.reduceSub, Int.reduceAdd, Int.reduceNeg, Int.reduceLE, Int.reduceMul, Int.reduceToNat, sz_le, sz_lt, Nat.reduceLeDiff, Nat.reduceLT, Bool.not_true, Bool.not_false, Bool.true_and, Bool.and_true, Bool.false_and, Bool.and_false, Bool.true_or, Bool.or_true, Bool.false_or, Bool.or_false, rite_and, rite_or, rb_and, rb_or, Bool.decide_eq_true, Bool.decide_and, Bool.decide_or, gAdd_LL, gAdd_Ll, gAdd_lL, gAdd_lst, gAdd_TT, map_sh_fz, map_fz_shL, List.length_map, gEq_bool, eq_self, forO_nil, forO_cons, lcR_nil, rng1R_ok, rng2R_ok, *])
theorem derR_lst {μ : List SO} {k : Nat} {ds : List PyData} (h : μ[k]? = some (.lst ds)) : derR μ (.sh (hdl k)) = .ok (.list ds) := by
  unfold derR derefO
  rw [fz_sh, objOf_hdl, h]
theorem isLs_lst {μ : List SO} {k : Nat} {ds : List PyData} (h : μ[k]? = some (.lst ds)) : isLs μ (hdl k) = true := by
  unfold isLs derefO
  rw [objOf_hdl, h]; rfl
theorem hmX_app {μ : List SO} {k : Nat} {ds : List PyData} {o : OV} (h : μ[k]? = some (.lst ds)) (hl : ds.length < sizeLine) : hmX hApp (hdl k) [o] μ = .ok (.sh .none) (μ.set k (.lst (ds ++ [fz o]))) := by
  unfold hmX
  rw [hdOf_hdl]
  simp only [h]
  show (match hApp ds [fz o] with | some (ds', c) => XR.ok (OV.sh c) (μ.set k (.lst ds')) | none => .stk) = _
  unfold hApp
  simp only [if_pos hl]
theorem hmX_pop {μ : List SO} {k : Nat} {ds : List PyData} {d : PyData} (h : μ[k]? = some (.lst (ds ++ [d]))) : hmX hPop (hdl k) [] μ = .ok (.sh d) (μ.set k (.lst ds)) := by
  unfold hmX
  rw [hdOf_hdl]
  simp only [h]
  show (match hPop (ds ++ [d]) [] with | some (ds', c) => XR.ok (OV.sh c) (μ.set k (.lst ds')) | none => .stk) = _
  unfold hPop
  simp
def skO (sh fl ru rows shots past : PyData) : SO := .ins "Seeker" [("sheet", sh), ("fleet", fl), ("rule", ru), ("rows", rows), ("shots", shots), ("past", past)]
section
variable {μ : List SO} {n k : Nat} {sh fl ru rows shots past : PyData}
theorem fld_at {c x : Str} {c' : Str} {fs : List (Str × PyData)} {d : PyData} (h : μ[n]? = some (.ins c' fs)) (e : c' = c) (hx : fs.lookup x = some d) : fldOf c x μ (hdl n) = some d := by
  unfold fldOf
  rw [objOf_hdl, h]
  simp only [e, if_true, hx]
theorem put_at {c x : Str} {c' : Str} {fs fs' : List (Str × PyData)} {y : PyData} (h : μ[n]? = some (.ins c' fs)) (e : c' = c) (hl : fs.length < 1000) (hx : putS x y fs = fs') : fldX c x (hdl n) y μ = .ok () (μ.set n (.ins c fs')) := by
  unfold fldX putFl
  rw [hdOf_hdl]
  simp only [h, e, hl, and_self, if_true, hx]
variable (h : μ[n]? = some (skO sh fl ru rows shots past))
include h
theorem sk_sheet : fldOf "Seeker" "sheet" μ (hdl n) = some sh := fld_at h rfl rfl
theorem sk_rows : fldOf "Seeker" "rows" μ (hdl n) = some rows := fld_at h rfl rfl
theorem sk_shots : fldOf "Seeker" "shots" μ (hdl n) = some shots := fld_at h rfl rfl
theorem sk_past : fldOf "Seeker" "past" μ (hdl n) = some past := fld_at h rfl rfl
theorem put_rows {y : PyData} : fldX "Seeker" "rows" (hdl n) y μ = .ok () (μ.set n (skO sh fl ru y shots past)) := put_at h rfl (Nat.le_of_ble_eq_true rfl) rfl
theorem put_shots {y : PyData} : fldX "Seeker" "shots" (hdl n) y μ = .ok () (μ.set n (skO sh fl ru rows y past)) := put_at h rfl (Nat.le_of_ble_eq_true rfl) rfl
end
def noCell (p : Cell) : Exn := ⟨"NoCell", cD p⟩
def noShotAt (p : Cell) : Exn := ⟨"NoShot", cD p⟩
theorem cols0_q (r : Rec) {F : PyData → Ev.R (Option OV)} (hF : ∀ x, F x = Ev.R.bind (ofOR (Ev.gSub (.sh x) (.sh (.int 0)))) fun o => .ok (some o)) : lcR F (r.map rD) = .ok (r.map fun q => .sh (cD q.1)) := cols_q r fun q _ => by
  rw [hF]
  unfold rD
  rw [gSub_tup, atI_l0]; rfl
theorem fz_cols (r : Rec) : fz (.lst (r.map fun q => OV.sh (cD q.1))) = .list ((r.map (·.1)).map cD) := by rw [fz_lst, List.map_map, List.map_map]; congr 1
theorem in_cols (r : Rec) (p : Cell) (neg : Bool) : Ev.gIn neg (.sh (cD p)) (.lst (r.map fun q => OV.sh (cD q.1))) = some (.sh (.bool (neg ^^ decide (p ∈ r.map (·.1))))) := by
  rw [EqE.cell.inL (by decide) fz_sh (fz_cols r)]
  exact congrArg (fun b => some (OV.sh (PyData.bool (neg ^^ b)))) (decide_eq_decide.mpr Iff.rfl)
theorem need_cell_q {R C : Nat} {r : Rec} (hc : r.length ≤ 1000) (p : Cell) : q_need_cell [cD (R, C), .list (r.map rD), cD p] = if onB R C p = true then (if p ∈ r.map (·.1) then .exc (noShotAt p) else .ok (.sh .none)) else .exc (noCell p) := by
  have o := on_q (R := R) (C := C) (p := p)
  have l1 := cols0_q r (F := fun x => Ev.R.bind (ofOR (Ev.gSub (.sh x) (.sh (.int 0)))) fun o => .ok (some o)) fun _ => rfl
  have gi := in_cols r p false
  have sz : ∀ x : OV, szR r.length x = .ok x := fun x => szR_ok (by rw [sizeLine_eq]; omega)
  have rk : ∀ {σ : Type} {x z : Str} {c : PyData}, raiseKO x (.ok (.sh (.str z))) (.ok (.sh c)) = (.exc ⟨x, c⟩ : O σ) := fun {σ x z c} => by rw [raiseKO_s, fz_sh]
  by_cases c : onB R C p = true
  · rw [if_pos c]
    rw [c] at o
    by_cases d : p ∈ r.map (·.1)
    · rw [if_pos d]
      rw [decide_eq_true d, Bool.false_xor] at gi
      show _ = Ev.R.exc ⟨"NoShot", cD p⟩
      clear d c
      unfold q_need_cell q_need_cell_0
      get_elem_tactic_trivial
    · rw [if_neg d]
      rw [decide_eq_false d, Bool.false_xor] at gi
      clear d c
      unfold q_need_cell q_need_cell_0
      get_elem_tactic_trivial
  · rw [if_neg c]
    rw [Bool.eq_false_iff.mpr c] at o
    show _ = Ev.R.exc ⟨"NoCell", cD p⟩
    clear c gi
    unfold q_need_cell q_need_cell_0
    get_elem_tactic_trivial
theorem add_row {r : Rec} {p : Cell} {a : Ans} (h : r.length ≤ 1000) : gAdd (.sh (.list (r.map rD))) (.lst [.sh (.tuple [cD p, a.d])]) = some (shL rD (r ++ [(p, a)])) := by
  rw [gAdd_Ll (xs := r.map rD) (ys := [.sh (.tuple [cD p, a.d])]) (by rw [List.length_map, sizeLine_eq]; simp; omega)]
  unfold shL
  simp [fz_sh, rD]
def ansF (rows : List Hid) (r : Rec) (p : Cell) (a : Ans) : List Hid := rows.filter fun h => decide (ansOf h (r.map (·.1)).reverse p = a)
theorem tell_turn {R C : Nat} {h : Hid} (g : GoodH R C h) {r : Rec} (nd : (r.map (·.1)).Nodup) (hC : ∀ q ∈ r, InB q.1) {p : Cell} (hp : InB p) {a : Ans} {v : OV} (hv : fz v = .int (sumB (r.map (·.1)) : Nat)) {acc : List Hid} (hl : acc.length < sizeLine) :
    q_Seeker_tell_1 (cD p) a.d v (hD h) (shL hD acc) = .next (shL hD (acc ++ if ansOf h (r.map (·.1)).reverse p = a then [h] else [])) := by
  have aq := answer_q (n := sumB (r.map (·.1))) g.inB (shot_bits nd hC) (fun q hq => by
    obtain ⟨z, hz, rfl⟩ := List.mem_map.mp (List.mem_reverse.mp hq)
    exact hC z hz) hp
  have lc := lcR_map (f := fun x => Ev.R.bind (q_bits_of [x]) fun o => .ok (some o)) Ship.d (fun s => .sh (bitD s)) h fun s hs => by rw [bits_of_q (g.inB s hs)]; rfl
  have it : itR (.sh (hD h)) = .ok (h.map Ship.d) := itR_tup
  have sz : ∀ x : OV, szR h.length x = .ok x := fun x => szR_ok (by have := g.len; rw [sizeLine_eq]; omega)
  have e := EqE.ans.eq (by decide) (neg := false) (a := .sh (ansOf h (r.map (·.1)).reverse p).d) (b := .sh a.d) fz_sh fz_sh
  have mu := mutR_shL (e := hD) (xs := acc) (o := .sh (hD h)) hl
  have ow : ownR "list" (shL hD acc) = .ok () := ownR_lst
  generalize sumB (r.map (·.1)) = n at *
  generalize (r.map (·.1)).reverse = shot at *
  by_cases c : ansOf h shot p = a
  · rw [if_pos c]
    rw [decide_eq_true c, Bool.false_xor] at e
    have fin : shL hD (acc ++ [h]) = .lst (acc.map (fun x => .sh (hD x)) ++ [.sh (hD h)]) := by unfold shL; rw [List.map_append]; rfl
    rw [fin]
    generalize shL hD acc = A at *
    clear nd hC hp g hl fin c
    unfold q_Seeker_tell_1
    get_elem_tactic_trivial
  · rw [if_neg c, List.append_nil]
    rw [decide_eq_false c, Bool.false_xor] at e
    generalize shL hD acc = A at *
    clear nd hC hp g hl c
    unfold q_Seeker_tell_1
    get_elem_tactic_trivial
theorem tell_loop {R C : Nat} {r : Rec} (nd : (r.map (·.1)).Nodup) (hC : ∀ q ∈ r, InB q.1) {p : Cell} (hp : InB p) {a : Ans} {v : OV} (hv : fz v = .int (sumB (r.map (·.1)) : Nat)) : ∀ (rows acc : List Hid), (∀ h ∈ rows, GoodH R C h) → acc.length + rows.length < sizeLine →
    forO (rows.map hD) (fun x s => q_Seeker_tell_1 (cD p) a.d v x s) (shL hD acc) = .next (shL hD (acc ++ ansF rows r p a))
  | [], acc, _, _ => by unfold ansF; rw [List.filter_nil, List.append_nil]; rfl
  | h :: rows, acc, g, hl => by
    rw [List.length_cons] at hl
    rw [List.map_cons, forO_cons, tell_turn (g h List.mem_cons_self) nd hC hp hv (by omega), O.bind_next, tell_loop nd hC hp hv rows _ (fun k hk => g k (List.mem_cons_of_mem _ hk)) (by rw [List.length_append]; split <;> simp <;> omega)]
    unfold ansF
    rw [List.filter_cons]
    by_cases z : ansOf h (r.map (·.1)).reverse p = a <;> simp [z]
structure SkAt (μ : List SO) (n k : Nat) (R C : Nat) (fleet : List Nat) (u : Rule) (rows : List Hid) (r : Rec) (P : List PyData) : Prop where
  obj : μ[n]? = some (skO (cD (R, C)) (fD fleet) u.d (.list (rows.map hD)) (.list (r.map rD)) (hdl k))
  past : μ[k]? = some (.lst P)
  ne : n ≠ k
  r8 : R ≤ 8
  c8 : C ≤ 8
  good : ∀ h ∈ rows, GoodH R C h
  len : rows.length ≤ 20000
  nd : (r.map (·.1)).Nodup
  on : ∀ q ∈ r, onB R C q.1 = true
  rlen : r.length ≤ 900
  plen : P.length ≤ 100000
theorem SkAt.inB {μ : List SO} {n k R C : Nat} {fleet : List Nat} {u : Rule} {rows : List Hid} {r : Rec} {P : List PyData} (s : SkAt μ n k R C fleet u rows r P) : ∀ q ∈ r, InB q.1 := fun q hq => on_inB s.r8 s.c8 (s.on q hq)
section
variable {μ : List SO} {n k R C : Nat} {fleet : List Nat} {u : Rule} {rows : List Hid} {r : Rec} {P : List PyData}
def tellSt (μ : List SO) (n k R C : Nat) (fleet : List Nat) (u : Rule) (rows rows' : List Hid) (r' : Rec) (P : List PyData) : List SO :=
  (μ.set k (.lst (P ++ [.list (rows.map hD)]))).set n (skO (cD (R, C)) (fD fleet) u.d (.list (rows'.map hD)) (.list (r'.map rD)) (hdl k))
theorem SkAt.tell (s : SkAt μ n k R C fleet u rows r P) (p : Cell) (a : Ans) : q_Seeker_tell [hdl n, cD p, a.d] μ =
    if onB R C p = true then (if p ∈ r.map (·.1) then .exc (noShotAt p) μ else if ansF rows r p a = [] then .exc noHiding μ else .ok (.sh .none) (tellSt μ n k R C fleet u rows (ansF rows r p a) (r ++ [(p, a)]) P)) else .exc (noCell p) μ := by
  have nc := need_cell_q (R := R) (C := C) (r := r) (by have := s.rlen; omega) p
  have f1 := sk_sheet s.obj
  have f2 := sk_shots s.obj
  have f3 := sk_rows s.obj
  have f4 := sk_past s.obj
  by_cases c1 : onB R C p = true
  · rw [if_pos c1] at nc ⊢
    by_cases c2 : p ∈ r.map (·.1)
    · rw [if_pos c2] at nc ⊢
      generalize noShotAt p = ex at *
      clear s c1 c2 f3 f4
      unfold q_Seeker_tell q_Seeker_tell_0
      get_elem_tactic_trivial
    · rw [if_neg c2] at nc ⊢
      have hp : InB p := on_inB s.r8 s.c8 c1
      have l1 := lcR_map (f := fun x => Ev.R.bind (Ev.R.bind (Ev.R.bind (ofOR (Ev.gSub (.sh x) (.sh (.int 0)))) fun e => .ok [e]) fun l => q_bit_of (l.map fz)) fun o => .ok (some o)) rD (fun q => .sh (.int ((2 ^ bx q.1 : Nat) : Int))) r fun q hq => by
        have e : Ev.gSub (.sh (rD q)) (.sh (.int 0)) = some (.sh (cD q.1)) := by unfold rD; rw [gSub_tup, atI_l0]; rfl
        rw [e]
        simp only [ofOR_some, Ev.R.bind_ok, List.map_cons, List.map_nil, fz_sh, bit_q (s.inB q hq)]
      have sm : dSum (.list (r.map fun q => .int ((2 ^ bx q.1 : Nat) : Int))) = some (.sh (.int (sumB (r.map (·.1)) : Nat))) := by
        rw [sum_q fun q : Cell × Ans => 2 ^ bx q.1]
        unfold sumB
        rw [List.map_map]; rfl
      have sz : ∀ x : OV, szR r.length x = .ok x := fun x => szR_ok (by have := s.rlen; rw [sizeLine_eq]; omega)
      have lp := tell_loop s.nd s.inB hp (a := a) (v := .sh (.int (sumB (r.map (·.1)) : Nat))) fz_sh rows [] s.good (by have := s.len; rw [sizeLine_eq]; simp; omega)
      rw [List.nil_append, show shL hD [] = .lst [] from rfl] at lp
      have eH := EqE.hid.eqND (by decide) (neg := false) (xs := ansF rows r p a)
      rw [Bool.false_xor] at eH
      by_cases c3 : ansF rows r p a = []
      · rw [if_pos c3]
        rw [c3] at eH lp
        rw [show ([] : List Hid).isEmpty = true from rfl] at eH
        have fl := fz_shL (e := hD) (xs := [])
        generalize shL hD [] = A at *
        clear s c1 c2 c3 f4 hp
        unfold q_Seeker_tell q_Seeker_tell_0
        get_elem_tactic_trivial
        rfl
      · rw [if_neg c3]
        have e0 : (ansF rows r p a).isEmpty = false := by rw [Bool.eq_false_iff]; simpa using c3
        rw [e0] at eH
        have fl := fz_shL (e := hD) (xs := ansF rows r p a)
        have il := isLs_lst s.past
        have hm := hmX_app (o := .sh (.list (rows.map hD))) s.past (by have := s.plen; rw [sizeLine_eq]; omega)
        rw [fz_sh] at hm
        have lt : n < μ.length := (List.getElem?_eq_some_iff.mp s.obj).1
        have o1 : (μ.set k (.lst (P ++ [.list (rows.map hD)])))[n]? = some (skO (cD (R, C)) (fD fleet) u.d (.list (rows.map hD)) (.list (r.map rD)) (hdl k)) := by
          rw [List.getElem?_set_ne (fun e => s.ne e.symm)]; exact s.obj
        have p1 := put_rows o1 (y := .list ((ansF rows r p a).map hD))
        have o2 : ((μ.set k (.lst (P ++ [.list (rows.map hD)]))).set n (skO (cD (R, C)) (fD fleet) u.d (.list ((ansF rows r p a).map hD)) (.list (r.map rD)) (hdl k)))[n]? = some (skO (cD (R, C)) (fD fleet) u.d (.list ((ansF rows r p a).map hD)) (.list (r.map rD)) (hdl k)) := by
          rw [List.getElem?_set_self (by rw [List.length_set]; exact lt)]
        have f5 := sk_shots o2
        have ga := add_row (r := r) (p := p) (a := a) (by have := s.rlen; omega)
        have fa := fz_shL (e := rD) (xs := r ++ [(p, a)])
        have p2 := put_shots o2 (y := .list ((r ++ [(p, a)]).map rD))
        rw [List.set_set] at p2
        unfold tellSt
        generalize ((μ.set k (.lst (P ++ [.list (rows.map hD)]))).set n (skO (cD (R, C)) (fD fleet) u.d (.list ((ansF rows r p a).map hD)) (.list ((r ++ [(p, a)]).map rD)) (hdl k))) = μ3 at *
        generalize ((μ.set k (.lst (P ++ [.list (rows.map hD)]))).set n (skO (cD (R, C)) (fD fleet) u.d (.list ((ansF rows r p a).map hD)) (.list (r.map rD)) (hdl k))) = μ2 at *
        generalize μ.set k (.lst (P ++ [.list (rows.map hD)])) = μ1 at *
        generalize shL rD (r ++ [(p, a)]) = NS at *
        generalize shL hD (ansF rows r p a) = A at *
        generalize ansF rows r p a = AF at *
        clear s c1 c2 c3 e0 hp o1 o2 lt
        unfold q_Seeker_tell q_Seeker_tell_0
        get_elem_tactic_trivial
  · rw [if_neg c1] at nc ⊢
    generalize noCell p = ex at *
    clear s c1 f3 f4
    unfold q_Seeker_tell q_Seeker_tell_0
    get_elem_tactic_trivial
end
abbrev rowsD (rows : List Hid) : PyData := .list (rows.map hD)
theorem EqE.rows : EqE rowsD 3 := EqE.hid.list
theorem slInit {α : Type} {e : α → PyData} {L : List α} : gSl (.sh (.list (L.map e))) none (some (-1)) = some (shL e L.dropLast) := by
  unfold gSl
  simp only [fz_sh, cut_init, ← List.map_dropLast, List.map_map]
  rfl
section
variable {μ : List SO} {n k R C : Nat} {fleet : List Nat} {u : Rule} {rows rows' : List Hid} {r : Rec} {P : List PyData}
def backSt (μ : List SO) (n k R C : Nat) (fleet : List Nat) (u : Rule) (rows' : List Hid) (r' : Rec) (P' : List PyData) : List SO :=
  (μ.set k (.lst P')).set n (skO (cD (R, C)) (fD fleet) u.d (.list (rows'.map hD)) (.list (r'.map rD)) (hdl k))
theorem SkAt.back {Q : List (List Hid)} (s : SkAt μ n k R C fleet u rows r ((Q ++ [rows']).map rowsD)) : q_Seeker_back [hdl n] μ = .ok (.sh .none) (backSt μ n k R C fleet u rows' r.dropLast (Q.map rowsD)) := by
  have f4 := sk_past s.obj
  have dr := derR_lst s.past
  have eq : gEqP false (.list ((Q ++ [rows']).map rowsD)) (.list []) = some (.bool false) := by
    have := EqE.rows.eqPL (by decide) (neg := false) (xs := Q ++ [rows']) (ys := [])
    rw [Bool.false_xor, decide_eq_false (by simp)] at this
    exact this
  have il := isLs_lst s.past
  have pa : μ[k]? = some (.lst (Q.map rowsD ++ [rowsD rows'])) := by rw [s.past, List.map_append]; rfl
  have hm := hmX_pop pa
  have lt : n < μ.length := (List.getElem?_eq_some_iff.mp s.obj).1
  have o1 : (μ.set k (.lst (Q.map rowsD)))[n]? = some (skO (cD (R, C)) (fD fleet) u.d (.list (rows.map hD)) (.list (r.map rD)) (hdl k)) := by
    rw [List.getElem?_set_ne (fun e => s.ne e.symm)]; exact s.obj
  have p1 := put_rows o1 (y := rowsD rows')
  have o2 : ((μ.set k (.lst (Q.map rowsD))).set n (skO (cD (R, C)) (fD fleet) u.d (rowsD rows') (.list (r.map rD)) (hdl k)))[n]? = some (skO (cD (R, C)) (fD fleet) u.d (rowsD rows') (.list (r.map rD)) (hdl k)) := by
    rw [List.getElem?_set_self (by rw [List.length_set]; exact lt)]
  have f5 := sk_shots o2
  have si := slInit (e := rD) (L := r)
  have fl := fz_shL (e := rD) (xs := r.dropLast)
  have p2 := put_shots o2 (y := .list (r.dropLast.map rD))
  rw [List.set_set] at p2
  unfold backSt
  generalize ((μ.set k (.lst (Q.map rowsD))).set n (skO (cD (R, C)) (fD fleet) u.d (.list (rows'.map hD)) (.list (r.dropLast.map rD)) (hdl k))) = μ3 at *
  generalize ((μ.set k (.lst (Q.map rowsD))).set n (skO (cD (R, C)) (fD fleet) u.d (rowsD rows') (.list (r.map rD)) (hdl k))) = μ2 at *
  generalize μ.set k (.lst (Q.map rowsD)) = μ1 at *
  generalize rowsD rows' = RD at *
  generalize (Q ++ [rows']).map rowsD = PD at *
  generalize shL rD r.dropLast = NS at *
  clear s o1 o2 lt pa
  unfold q_Seeker_back q_Seeker_back_0
  get_elem_tactic_trivial
theorem SkAt.left (s : SkAt μ n k R C fleet u rows r P) : q_Seeker_left [hdl n] μ = .ok (.sh (.int (rows.length : Nat))) := by
  have f2 := sk_rows s.obj
  clear s
  unfold q_Seeker_left q_Seeker_left_0
  get_elem_tactic_trivial
end
inductive Deed | back | tell (p : Cell) (a : Ans)
def Deed.d : Deed → PyData
  | .back => .tuple [.str "back"]
  | .tell p a => .tuple [.str "tell", cD p, a.d]
abbrev SkS := List Hid × Rec
inductive OkL (R C : Nat) (A : List Hid) : List SkS → Prop
  | base : OkL R C A [(A, [])]
  | push {s : SkS} {Q : List SkS} {p : Cell} {a : Ans} : OkL R C A (s :: Q) → onB R C p = true → p ∉ s.2.map (·.1) → ansF s.1 s.2 p a ≠ [] → OkL R C A ((ansF s.1 s.2 p a, s.2 ++ [(p, a)]) :: s :: Q)
structure StOk (R C : Nat) (A : List Hid) (s : SkS) : Prop where
  sub : ∀ h ∈ s.1, h ∈ A
  ne : s.1 ≠ []
  len : s.1.length ≤ A.length
  nd : (s.2.map (·.1)).Nodup
  on : ∀ q ∈ s.2, onB R C q.1 = true
theorem OkL.ok {R C : Nat} {A : List Hid} (hA : A ≠ []) : ∀ {L : List SkS}, OkL R C A L → ∃ s Q, L = s :: Q ∧ StOk R C A s ∧ Q.length = s.2.length := fun {L} h => by
  induction h with
  | base => exact ⟨_, _, rfl, ⟨fun h hh => hh, hA, Nat.le_refl _, by simp, by simp⟩, rfl⟩
  | @push s Q p a h0 hp hn he ih =>
    obtain ⟨s', Q', e, k, l⟩ := ih
    cases e
    refine ⟨_, _, rfl, ⟨fun h hh => k.sub h (List.mem_filter.mp hh).1, he, Nat.le_trans (List.length_filter_le _ _) k.len, ?_, ?_⟩, ?_⟩
    · rw [List.map_append]
      exact List.nodup_append.mpr ⟨k.nd, by simp, fun x hx y hy e => hn (by rw [List.mem_singleton.mp hy] at e; subst e; exact hx)⟩
    · intro q hq
      rcases List.mem_append.mp hq with h | h
      · exact k.on q h
      · rw [List.mem_singleton.mp h]; exact hp
    · simp [l]
theorem OkL.tail {R C : Nat} {A : List Hid} {s s1 : SkS} {Q : List SkS} (h : OkL R C A (s :: s1 :: Q)) : OkL R C A (s1 :: Q) ∧ s.2.dropLast = s1.2 := by
  cases h with
  | push h0 hp hn he => exact ⟨h0, by simp⟩
theorem nodup_sub {α : Type} [DecidableEq α] : ∀ {l m : List α}, l.Nodup → (∀ x ∈ l, x ∈ m) → l.length ≤ m.length
  | [], _, _, _ => Nat.zero_le _
  | a :: l, m, nd, h => by
    rw [List.nodup_cons] at nd
    have ha := h a List.mem_cons_self
    have := nodup_sub (l := l) (m := m.erase a) nd.2 fun x hx => (List.mem_erase_of_ne (fun e => nd.1 (by rw [← e]; exact hx))).mpr (h x (List.mem_cons_of_mem _ hx))
    rw [List.length_erase_of_mem ha] at this
    have := List.length_pos_of_mem ha
    rw [List.length_cons]; omega
theorem StOk.rlen {R C : Nat} {A : List Hid} {s : SkS} (k : StOk R C A s) : s.2.length ≤ R * C := by
  have := nodup_sub k.nd (m := sheetC R C) fun x hx => by
    obtain ⟨q, hq, rfl⟩ := List.mem_map.mp hx
    exact mem_sheetC.mpr (k.on q hq)
  rwa [List.length_map, sheetC_len] at this
structure SkL (μ : List SO) (n k R C : Nat) (fleet : List Nat) (u : Rule) (s : SkS) (Q : List SkS) : Prop where
  obj : μ[n]? = some (skO (cD (R, C)) (fD fleet) u.d (rowsD s.1) (recD s.2) (hdl k))
  past : μ[k]? = some (.lst ((Q.reverse.map (·.1)).map rowsD))
  ne : n ≠ k
section
variable {μ : List SO} {n k pk R C : Nat} {fleet : List Nat} {u : Rule} {s : SkS} {Q : List SkS}
theorem SkL.at (sk : SkL μ n k R C fleet u s Q) (g : GameW R C u fleet) (nA : allH R C u fleet ≠ []) (ok : OkL R C (allH R C u fleet) (s :: Q)) : SkAt μ n k R C fleet u s.1 s.2 ((Q.reverse.map (·.1)).map rowsD) := by
  obtain ⟨_, _, e, t, l⟩ := ok.ok nA
  cases e
  have hb : R * C ≤ 8 * 8 := Nat.mul_le_mul g.r8 g.c8
  have rl := t.rlen
  exact ⟨sk.obj, sk.past, sk.ne, g.r8, g.c8, fun h hh => g.good (t.sub h hh), Nat.le_trans t.len g.le, t.nd, t.on, by omega, by simp; omega⟩
end
end Com
set_option maxHeartbeats 0
namespace K22
open PySem PySem.Spec L2 Ev Com
open PyProof.Rows hiding St
abbrev N_cells_of : List Str := ["ship", "row", "column", "way", "length", "k"]
theorem sc_cells_of : FnScope N_cells_of ["ship"] (defScope s_cells_of) := ⟨rfl, rfl, rfl, by decide +kernel, rfl, by decide +kernel, by decide +kernel⟩
abbrev N_rows_of_ships : List Str := ["top", "bottom", "left", "right", "length", "found", "row", "column"]
theorem sc_rows_of_ships : FnScope N_rows_of_ships ["top", "bottom", "left", "right", "length"] (defScope s_rows_of_ships) := ⟨rfl, rfl, rfl, by decide +kernel, rfl, by decide +kernel, by decide +kernel⟩
abbrev N_columns_of_ships : List Str := ["top", "bottom", "left", "right", "length", "found", "column", "row"]
theorem sc_columns_of_ships : FnScope N_columns_of_ships ["top", "bottom", "left", "right", "length"] (defScope s_columns_of_ships) := ⟨rfl, rfl, rfl, by decide +kernel, rfl, by decide +kernel, by decide +kernel⟩
abbrev N_apart_ships : List Str := ["rows", "columns", "length", "over", "beside", "found", "high", "wide"]
theorem sc_apart_ships : FnScope N_apart_ships ["rows", "columns", "length"] (defScope s_apart_ships) := ⟨rfl, rfl, rfl, by decide +kernel, rfl, by decide +kernel, by decide +kernel⟩
abbrev N_net_cells : List Str := ["rows", "columns", "length", "nets", "row", "column", "place", "rest"]
theorem sc_net_cells : FnScope N_net_cells ["rows", "columns", "length"] (defScope s_net_cells) := ⟨rfl, rfl, rfl, by decide +kernel, rfl, by decide +kernel, by decide +kernel⟩
def b_net_cells_1 : Rho → Out :=
  (sCons (sSet 6 (eBin gAdd (eV 4) (eV 5)))
    (sCons (sIf (eTest (eBin (gGt) (eV 2) (eV 0))) (sCons (sSet 6 (eBin gAdd (eV 5) (cC (.int 1))))
    sNil) sNil)
    (sCons (sIf (eTest (eBin (gGt) (eV 2) (eV 1))) (sCons (sSet 6 (eBin gAdd (eV 4) (cC (.int 1))))
    sNil) sNil)
    (sCons (sExpr (eMutS 3 "list" mApp (eMod (eV 6) (eV 2)) (lCons (eTup (lCons (eV 4) (lCons (eV 5) lNil))) lNil)))
    sNil))))
def b_net_cells_2 : Rho → Out :=
  (sCons (sFor [5, 6] (iRange1 (eV 1)) (hName 5) b_net_cells_1)
    sNil)
def b_net_cells : Rho → Out :=
  (sCons (sIf (bAnd (eTest (eBin (gGt) (eV 2) (eV 0))) (eTest (eBin (gGt) (eV 2) (eV 1)))) (sCons (sRet (eLst lNil))
    sNil) sNil)
    (sCons (sSet 3 (eLc [7] (iRange1 (eV 2)) (hName 7) tYesR (eLst lNil)))
    (sCons (sFor [4, 5, 6] (iRange1 (eV 0)) (hName 4) b_net_cells_2)
    (sCons (sIf (bOr (eTest (eBin (gGt) (eV 2) (eV 0))) (eTest (eBin (gGt) (eV 2) (eV 1)))) (sCons (sRet (eTkI 3 0))
    sNil) sNil)
    (sCons (sRet (eTkM 3))
    sNil)))))
def m_net_cells : List PyData → List SO → Rv := runP 8 b_net_cells
abbrev N_net_of : List Str := ["rows", "columns", "length"]
theorem sc_net_of : FnScope N_net_of ["rows", "columns", "length"] (defScope s_net_of) := ⟨rfl, rfl, rfl, by decide +kernel, rfl, by decide +kernel, by decide +kernel⟩
def b_net_of : Rho → Out :=
  (sCons (sRet (eTupO (lCons (eCall m_net_cells (lCons (eV 0) (lCons (eV 1) (lCons (eV 2) lNil)))) (lCons (eFn (g1 dSorted) (lCons (eCall m_apart_ships (lCons (eV 0) (lCons (eV 1) (lCons (eV 2) lNil)))) lNil)) lNil))))
    sNil)
def m_net_of : List PyData → List SO → Rv := runP 3 b_net_of
abbrev N_least_net : List Str := ["rows", "columns", "length"]
theorem sc_least_net : FnScope N_least_net ["rows", "columns", "length"] (defScope s_least_net) := ⟨rfl, rfl, rfl, by decide +kernel, rfl, by decide +kernel, by decide +kernel⟩
def b_least_net : Rho → Out :=
  (sCons (sRet (eFn (g1 dLen) (lCons (eCall m_net_cells (lCons (eV 0) (lCons (eV 1) (lCons (eV 2) lNil)))) lNil)))
    sNil)
def m_least_net : List PyData → List SO → Rv := runP 3 b_least_net
abbrev N_is_net : List Str := ["rows", "columns", "length", "cells", "there", "cell", "way", "row", "column"]
theorem sc_is_net : FnScope N_is_net ["rows", "columns", "length", "cells"] (defScope s_is_net) := ⟨rfl, rfl, rfl, by decide +kernel, rfl, by decide +kernel, by decide +kernel⟩
abbrev N_lie_apart : List Str := ["ships", "there", "ship", "cell"]
theorem sc_lie_apart : FnScope N_lie_apart ["ships"] (defScope s_lie_apart) := ⟨rfl, rfl, rfl, by decide +kernel, rfl, by decide +kernel, by decide +kernel⟩
abbrev N__law_stir : List Str := ["cell", "k", "number"]
theorem sc__law_stir : FnScope N__law_stir ["cell", "k"] (defScope s__law_stir) := ⟨rfl, rfl, rfl, by decide +kernel, rfl, by decide +kernel, by decide +kernel⟩
abbrev N__law_drawn : List Str := ["cell", "sizes", "found", "rest", "k"]
theorem sc__law_drawn : FnScope N__law_drawn ["cell", "sizes"] (defScope s__law_drawn) := ⟨rfl, rfl, rfl, by decide +kernel, rfl, by decide +kernel, by decide +kernel⟩
abbrev N__law_cells : List Str := ["ship", "row", "column", "way", "length", "found", "k"]
theorem sc__law_cells : FnScope N__law_cells ["ship"] (defScope s__law_cells) := ⟨rfl, rfl, rfl, by decide +kernel, rfl, by decide +kernel, by decide +kernel⟩
abbrev N__law_runs : List Str := ["rows", "columns", "length", "found", "row", "column", "k"]
theorem sc__law_runs : FnScope N__law_runs ["rows", "columns", "length"] (defScope s__law_runs) := ⟨rfl, rfl, rfl, by decide +kernel, rfl, by decide +kernel, by decide +kernel⟩
abbrev N__law_is_net : List Str := ["rows", "columns", "length", "cells", "there", "run", "cell"]
theorem sc__law_is_net : FnScope N__law_is_net ["rows", "columns", "length", "cells"] (defScope s__law_is_net) := ⟨rfl, rfl, rfl, by decide +kernel, rfl, by decide +kernel, by decide +kernel⟩
abbrev N__law_apart : List Str := ["ships", "there", "ship", "cell"]
theorem sc__law_apart : FnScope N__law_apart ["ships"] (defScope s__law_apart) := ⟨rfl, rfl, rfl, by decide +kernel, rfl, by decide +kernel, by decide +kernel⟩
abbrev N__law_sizes : List Str := ["cell", "way", "rows", "columns", "length", "times", "more", "high", "wide"]
theorem sc__law_sizes : FnScope N__law_sizes ["cell"] (defScope s__law_sizes) := ⟨rfl, rfl, rfl, by decide +kernel, rfl, by decide +kernel, by decide +kernel⟩
abbrev N__law_ships_right : List Str := ["rows", "columns", "length", "ships", "ship", "row", "column"]
theorem sc__law_ships_right : FnScope N__law_ships_right ["rows", "columns", "length", "ships"] (defScope s__law_ships_right) := ⟨rfl, rfl, rfl, by decide +kernel, rfl, by decide +kernel, by decide +kernel⟩
def b__law_ships_right_1 : Rho → Out :=
  (sCons (sIf (bOr (eTest (eBin (gLt) (eV 5) (cC (.int 0)))) (bOr (eTest (eBin (gGe) (eV 5) (eV 0))) (bOr (eTest (eBin (gLt) (eV 6) (cC (.int 0)))) (eTest (eBin (gGe) (eV 6) (eV 1)))))) (sCons (sRet (cC (.bool false)))
    sNil) sNil)
    sNil)
def b__law_ships_right_2 : Rho → Out :=
  (sCons (sIf (bOr (bNot (eTest (eFn (gIsi "tuple") (lCons (eV 4) lNil)))) (bOr (eTest (eBin (gEq true) (eFn (g1 dLen) (lCons (eV 4) lNil)) (cC (.int 4)))) (bOr (eTest (eBin (gEq true) (eBin gSub (eV 4) (cC (.int 3))) (eV 2))) (eTest (eBin (gIn true) (eBin gSub (eV 4) (cC (.int 2))) (eTup (lCons (cC (.str "along")) (lCons (cC (.str "down")) lNil)))))))) (sCons (sRet (cC (.bool false)))
    sNil) sNil)
    (sCons (sIf (bAnd (eTest (eBin (gEq false) (eV 2) (cC (.int 1)))) (eTest (eBin (gEq false) (eBin gSub (eV 4) (cC (.int 2))) (cC (.str "down"))))) (sCons (sRet (cC (.bool false)))
    sNil) sNil)
    (sCons (sFor [5, 6] (iVal (eCall m__law_cells (lCons (eV 4) lNil))) (hTup 2 (hCons (hName 5) (hCons (hName 6) hNil))) b__law_ships_right_1)
    sNil)))
def b__law_ships_right : Rho → Out :=
  (sCons (sFor [4, 5, 6] (iVal (eV 3)) (hName 4) b__law_ships_right_2)
    (sCons (sRet (eAnd (eBin (gEq false) (eV 3) (eFn (g1 dSorted) (lCons (eV 3) lNil))) (eCall m__law_apart (lCons (eV 3) lNil))))
    sNil))
def m__law_ships_right : List PyData → List SO → Rv := runP 7 b__law_ships_right
abbrev N_law : List Str := ["script", "cell", "rows", "columns", "length", "found", "cells", "ships", "kept", "part"]
theorem sc_law : FnScope N_law ["script"] (defScope s_law) := ⟨rfl, rfl, rfl, by decide +kernel, rfl, by decide +kernel, by decide +kernel⟩
def b_law_1 : Rho → Out :=
  (sCons (sAsg (hTup 3 (hCons (hName 2) (hCons (hName 3) (hCons (hName 4) hNil)))) (eCall m__law_sizes (lCons (eV 1) lNil)))
    (sCons (sSet 5 (eCall m_net_of (lCons (eV 2) (lCons (eV 3) (lCons (eV 4) lNil)))))
    (sCons (sIf (bOr (bNot (bThaw 5 (eTest (eFn (gIsi "tuple") (lCons (eV 5) lNil))))) (bThaw 5 (eTest (eBin (gEq true) (eLc [9] (iVal (eV 5)) (hName 9) (bNot (eTest (eFn (gIsi "list") (lCons (eV 9) lNil)))) (eV 9)) (eLst lNil))))) (sCons (sRet (cC (.bool false)))
    sNil) sNil)
    (sCons (sUnp 6 7 5 (bOr (eTest (eBin (gEq true) (eB1 dLenP 6) (eB1 dLenP 7))) (bThaw 6 (eTest (eBin (gEq true) (eV 6) (eFn (g1 dSorted) (lCons (eV 6) lNil)))))) (sCons (sRet (cC (.bool false)))
    sNil))
    (sCons (sIf (bOr (bNot (bThaw 6 (eTest (eCall m__law_is_net (lCons (eV 2) (lCons (eV 3) (lCons (eV 4) (lCons (eV 6) lNil)))))))) (bNot (bThaw 7 (eTest (eCall m__law_ships_right (lCons (eV 2) (lCons (eV 3) (lCons (eV 4) (lCons (eV 7) lNil))))))))) (sCons (sRet (cC (.bool false)))
    sNil) sNil)
    (sCons (sIf (bOr (bThaw 6 (eTest (eBin (gIsB true) (eCall m_is_net (lCons (eV 2) (lCons (eV 3) (lCons (eV 4) (lCons (eFn (g1 dList) (lCons (eV 6) lNil)) lNil))))) (cC (.bool true))))) (bThaw 7 (eTest (eBin (gIsB true) (eCall m_lie_apart (lCons (eFn (g1 dList) (lCons (eV 7) lNil)) lNil)) (cC (.bool true)))))) (sCons (sRet (cC (.bool false)))
    sNil) sNil)
    (sCons (sIf (eTest (eBin (gEq true) (eCall m_least_net (lCons (eV 2) (lCons (eV 3) (lCons (eV 4) lNil)))) (eB1 dLenP 6))) (sCons (sRet (cC (.bool false)))
    sNil) sNil)
    (sCons (sSet 8 (eTup (lCons (eCpB 6) (lCons (eCpB 7) lNil))))
    (sCons (sExpr (eMut 6 "list" mApp (lCons (eTup (lCons (cC (.int 0)) (lCons (cC (.int 0)) lNil))) lNil)))
    (sCons (sExpr (eMut 7 "list" mApp (lCons (cC .none) lNil)))
    (sCons (sIf (eTest (eBin (gEq true) (eCall m_net_of (lCons (eV 2) (lCons (eV 3) (lCons (eV 4) lNil)))) (eV 8))) (sCons (sRet (cC (.bool false)))
    sNil) sNil)
    sNil)))))))))))
def b_law : Rho → Out :=
  (sCons (sFor [1, 2, 3, 4, 5, 6, 7, 8, 9] (iVal (eBin gAdd (eLst (lCons (cC (.int 0)) lNil)) (eSl (eV 0) none (some (cC (.int 12)))))) (hName 1) b_law_1)
    (sCons (sRet (cC (.bool true)))
    sNil))
def m_law : List PyData → List SO → Rv := runP 10 b_law
structure Top (K : PySem.W.Frag) (mg : Str → Option Value) : Prop where
  d_cells_of : ∃ (f : Addr) (fd : FuncData), FunD K "cells_of" "cells_of" (defArgs s_cells_of) (defBody s_cells_of) (defScope s_cells_of) [] [] f fd ∧ mg "cells_of" = some (.ref f) ∧ Binds K fd ["ship"] []
  d_rows_of_ships : ∃ (f : Addr) (fd : FuncData), FunD K "rows_of_ships" "rows_of_ships" (defArgs s_rows_of_ships) (defBody s_rows_of_ships) (defScope s_rows_of_ships) [] [] f fd ∧ mg "rows_of_ships" = some (.ref f) ∧ Binds K fd ["top", "bottom", "left", "right", "length"] []
  d_columns_of_ships : ∃ (f : Addr) (fd : FuncData), FunD K "columns_of_ships" "columns_of_ships" (defArgs s_columns_of_ships) (defBody s_columns_of_ships) (defScope s_columns_of_ships) [] [] f fd ∧ mg "columns_of_ships" = some (.ref f) ∧ Binds K fd ["top", "bottom", "left", "right", "length"] []
  d_apart_ships : ∃ (f : Addr) (fd : FuncData), FunD K "apart_ships" "apart_ships" (defArgs s_apart_ships) (defBody s_apart_ships) (defScope s_apart_ships) [] [] f fd ∧ mg "apart_ships" = some (.ref f) ∧ Binds K fd ["rows", "columns", "length"] []
  d_net_cells : ∃ (f : Addr) (fd : FuncData), FunD K "net_cells" "net_cells" (defArgs s_net_cells) (defBody s_net_cells) (defScope s_net_cells) [] [] f fd ∧ mg "net_cells" = some (.ref f) ∧ Binds K fd ["rows", "columns", "length"] []
  d_net_of : ∃ (f : Addr) (fd : FuncData), FunD K "net_of" "net_of" (defArgs s_net_of) (defBody s_net_of) (defScope s_net_of) [] [] f fd ∧ mg "net_of" = some (.ref f) ∧ Binds K fd ["rows", "columns", "length"] []
  d_least_net : ∃ (f : Addr) (fd : FuncData), FunD K "least_net" "least_net" (defArgs s_least_net) (defBody s_least_net) (defScope s_least_net) [] [] f fd ∧ mg "least_net" = some (.ref f) ∧ Binds K fd ["rows", "columns", "length"] []
  d_is_net : ∃ (f : Addr) (fd : FuncData), FunD K "is_net" "is_net" (defArgs s_is_net) (defBody s_is_net) (defScope s_is_net) [] [] f fd ∧ mg "is_net" = some (.ref f) ∧ Binds K fd ["rows", "columns", "length", "cells"] []
  d_lie_apart : ∃ (f : Addr) (fd : FuncData), FunD K "lie_apart" "lie_apart" (defArgs s_lie_apart) (defBody s_lie_apart) (defScope s_lie_apart) [] [] f fd ∧ mg "lie_apart" = some (.ref f) ∧ Binds K fd ["ships"] []
  d__law_stir : ∃ (f : Addr) (fd : FuncData), FunD K "_law_stir" "_law_stir" (defArgs s__law_stir) (defBody s__law_stir) (defScope s__law_stir) [] [] f fd ∧ mg "_law_stir" = some (.ref f) ∧ Binds K fd ["cell", "k"] []
  d__law_drawn : ∃ (f : Addr) (fd : FuncData), FunD K "_law_drawn" "_law_drawn" (defArgs s__law_drawn) (defBody s__law_drawn) (defScope s__law_drawn) [] [] f fd ∧ mg "_law_drawn" = some (.ref f) ∧ Binds K fd ["cell", "sizes"] []
  d__law_cells : ∃ (f : Addr) (fd : FuncData), FunD K "_law_cells" "_law_cells" (defArgs s__law_cells) (defBody s__law_cells) (defScope s__law_cells) [] [] f fd ∧ mg "_law_cells" = some (.ref f) ∧ Binds K fd ["ship"] []
  d__law_runs : ∃ (f : Addr) (fd : FuncData), FunD K "_law_runs" "_law_runs" (defArgs s__law_runs) (defBody s__law_runs) (defScope s__law_runs) [] [] f fd ∧ mg "_law_runs" = some (.ref f) ∧ Binds K fd ["rows", "columns", "length"] []
  d__law_is_net : ∃ (f : Addr) (fd : FuncData), FunD K "_law_is_net" "_law_is_net" (defArgs s__law_is_net) (defBody s__law_is_net) (defScope s__law_is_net) [] [] f fd ∧ mg "_law_is_net" = some (.ref f) ∧ Binds K fd ["rows", "columns", "length", "cells"] []
  d__law_apart : ∃ (f : Addr) (fd : FuncData), FunD K "_law_apart" "_law_apart" (defArgs s__law_apart) (defBody s__law_apart) (defScope s__law_apart) [] [] f fd ∧ mg "_law_apart" = some (.ref f) ∧ Binds K fd ["ships"] []
  d__law_sizes : ∃ (f : Addr) (fd : FuncData), FunD K "_law_sizes" "_law_sizes" (defArgs s__law_sizes) (defBody s__law_sizes) (defScope s__law_sizes) [] [] f fd ∧ mg "_law_sizes" = some (.ref f) ∧ Binds K fd ["cell"] []
  d__law_ships_right : ∃ (f : Addr) (fd : FuncData), FunD K "_law_ships_right" "_law_ships_right" (defArgs s__law_ships_right) (defBody s__law_ships_right) (defScope s__law_ships_right) [] [] f fd ∧ mg "_law_ships_right" = some (.ref f) ∧ Binds K fd ["rows", "columns", "length", "ships"] []
  d_law : ∃ (f : Addr) (fd : FuncData), FunD K "law" "law" (defArgs s_law) (defBody s_law) (defScope s_law) [] [] f fd ∧ mg "law" = some (.ref f) ∧ Binds K fd ["script"] []
  n_any : mg "any" = none
  n_dict : mg "dict" = none
  n_int : mg "int" = none
  n_isinstance : mg "isinstance" = none
  n_len : mg "len" = none
  n_list : mg "list" = none
  n_min : mg "min" = none
  n_range : mg "range" = none
  n_sorted : mg "sorted" = none
  n_tuple : mg "tuple" = none
section
variable {P : Program} {w : World} {K : PySem.W.Frag} {mg : Str → Option Value} {base : Heap}
theorem ok_cells_of (D : Top K mg) : FnT P w K mg base "cells_of" 1 1 m_cells_of := by
  obtain ⟨f, fd, F, hm, hb⟩ := D.d_cells_of
  exact fnD_of F sc_cells_of hm hb rfl fun cdv A outer s H E G =>
    (eb_cons (es_asg (is := [1, 2, 3, 4]) (ev_var (pv 0)) (eg_tup G (egs_cons (eg_name (i := 1) G.nd rfl (by first | exact .inl rfl | exact .inr rfl)) (egs_cons (eg_name (i := 2) G.nd rfl (by first | exact .inl rfl | exact .inr rfl)) (egs_cons (eg_name (i := 3) G.nd rfl (by first | exact .inl rfl | exact .inr rfl)) (egs_cons (eg_name (i := 4) G.nd rfl (by first | exact .inl rfl | exact .inr rfl)) egs_nil))))))
    (eb_cons (es_if (et_cmp (ec_eq G (ev_var (pv 3)) ev_str)) (eb_cons (es_ret (ev_lc (own := [("k", 5)]) G (ei_range1 (by rfl) D.n_range (ev_var (pv 4))) (blkOk_by (N := N_cells_of) (sc := defScope s_cells_of) (own := [("k", 5)]) (by first | decide +kernel | rfl)) (fun s1 H1 C1 cl1 fp1 => (eg_name (i := 5) (G.blk s1 H1 _ _ fp1).nd rfl (by first | exact .inl rfl | exact .inr rfl))) (fun s1 H1 C1 cl1 fp1 => ets_nil) (fun s1 H1 C1 cl1 fp1 => (ev_tup (el_cons (ev_var (pv 1)) (el_cons (ev_add (ev_var (pv 2)) (ev_var (pv 5))) el_nil))))))
    eb_nil) eb_nil)
    (eb_cons (es_ret (ev_lc (own := [("k", 5)]) G (ei_range1 (by rfl) D.n_range (ev_var (pv 4))) (blkOk_by (N := N_cells_of) (sc := defScope s_cells_of) (own := [("k", 5)]) (by first | decide +kernel | rfl)) (fun s1 H1 C1 cl1 fp1 => (eg_name (i := 5) (G.blk s1 H1 _ _ fp1).nd rfl (by first | exact .inl rfl | exact .inr rfl))) (fun s1 H1 C1 cl1 fp1 => ets_nil) (fun s1 H1 C1 cl1 fp1 => (ev_tup (el_cons (ev_add (ev_var (pv 1)) (ev_var (pv 5))) (el_cons (ev_var (pv 2)) el_nil))))))
    eb_nil)))
theorem ok_rows_of_ships (D : Top K mg) : FnT P w K mg base "rows_of_ships" 1 5 m_rows_of_ships := by
  obtain ⟨f, fd, F, hm, hb⟩ := D.d_rows_of_ships
  exact fnD_of F sc_rows_of_ships hm hb rfl fun cdv A outer s H E G =>
    (eb_cons (es_set (i := 5) G.nd rfl (by first | exact .inl rfl | exact .inr rfl) (ev_lst el_nil))
    (eb_cons (es_for (is := [6]) [6, 7] G (ei_range2 (by rfl) D.n_range (el_cons (ev_var (pv 0)) (el_cons (ev_var (pv 1)) el_nil))) (eg_name (i := 6) G.nd rfl (by first | exact .inl rfl | exact .inr rfl)) (eb_cons (es_expr (ev_mt opm_ext (by decide) (pe_bm PySem.F.plainAttrs_list PySem.F.slot_list_extend PySem.F.type_list_extend mt_extend (pv 5) (el_cons (ev_lc (own := [("column", 7)]) G (ei_range3 (by rfl) D.n_range (el_cons (ev_var (pv 2)) (el_cons (ev_add (ev_sub (ev_var (pv 3)) (ev_var (pv 4))) ev_int) (el_cons (ev_var (pv 4)) el_nil)))) (blkOk_by (N := N_rows_of_ships) (sc := defScope s_rows_of_ships) (own := [("column", 7)]) (by first | decide +kernel | rfl)) (fun s1 H1 C1 cl1 fp1 => (eg_name (i := 7) (G.blk s1 H1 _ _ fp1).nd rfl (by first | exact .inl rfl | exact .inr rfl))) (fun s1 H1 C1 cl1 fp1 => ets_nil) (fun s1 H1 C1 cl1 fp1 => (ev_tup (el_cons (ev_var (pv 6)) (el_cons (ev_var (pv 7)) (el_cons ev_str (el_cons (ev_var (pv 4)) el_nil))))))) el_nil))))
    eb_nil))
    (eb_cons (es_ret (ev_mv (pv 5)))
    eb_nil)))
theorem ok_columns_of_ships (D : Top K mg) : FnT P w K mg base "columns_of_ships" 2 5 m_columns_of_ships := by
  obtain ⟨f, fd, F, hm, hb⟩ := D.d_columns_of_ships
  exact fnD_of F sc_columns_of_ships hm hb rfl fun cdv A outer s H E G =>
    (eb_cons (es_if (et_cmp (ec_eq G (ev_var (pv 4)) ev_int)) (eb_cons (es_ret (ev_call G (ok_rows_of_ships D) (by decide) (by rfl) (el_cons (ev_var (pv 0)) (el_cons (ev_var (pv 1)) (el_cons (ev_var (pv 2)) (el_cons (ev_var (pv 3)) (el_cons ev_int el_nil))))) (hfl := (ll_cons (ll_cons (ll_cons (ll_cons (ll_cons ll_nil))))))))
    eb_nil) eb_nil)
    (eb_cons (es_set (i := 5) G.nd rfl (by first | exact .inl rfl | exact .inr rfl) (ev_lst el_nil))
    (eb_cons (es_for (is := [6]) [6, 7] G (ei_range2 (by rfl) D.n_range (el_cons (ev_var (pv 2)) (el_cons (ev_var (pv 3)) el_nil))) (eg_name (i := 6) G.nd rfl (by first | exact .inl rfl | exact .inr rfl)) (eb_cons (es_expr (ev_mt opm_ext (by decide) (pe_bm PySem.F.plainAttrs_list PySem.F.slot_list_extend PySem.F.type_list_extend mt_extend (pv 5) (el_cons (ev_lc (own := [("row", 7)]) G (ei_range3 (by rfl) D.n_range (el_cons (ev_var (pv 0)) (el_cons (ev_add (ev_sub (ev_var (pv 1)) (ev_var (pv 4))) ev_int) (el_cons (ev_var (pv 4)) el_nil)))) (blkOk_by (N := N_columns_of_ships) (sc := defScope s_columns_of_ships) (own := [("row", 7)]) (by first | decide +kernel | rfl)) (fun s1 H1 C1 cl1 fp1 => (eg_name (i := 7) (G.blk s1 H1 _ _ fp1).nd rfl (by first | exact .inl rfl | exact .inr rfl))) (fun s1 H1 C1 cl1 fp1 => ets_nil) (fun s1 H1 C1 cl1 fp1 => (ev_tup (el_cons (ev_var (pv 7)) (el_cons (ev_var (pv 6)) (el_cons ev_str (el_cons (ev_var (pv 4)) el_nil))))))) el_nil))))
    eb_nil))
    (eb_cons (es_ret (ev_mv (pv 5)))
    eb_nil))))
theorem ok_apart_ships (D : Top K mg) : FnT P w K mg base "apart_ships" 3 3 m_apart_ships := by
  obtain ⟨f, fd, F, hm, hb⟩ := D.d_apart_ships
  exact fnD_of F sc_apart_ships hm hb rfl fun cdv A outer s H E G =>
    (eb_cons (es_if (et_cmp (ec_gt G (ev_var (pv 2)) (ev_var (pv 0)))) (eb_cons (es_ret (ev_call G (ok_rows_of_ships D) (by decide) (by rfl) (el_cons ev_int (el_cons (ev_var (pv 0)) (el_cons ev_int (el_cons (ev_var (pv 1)) (el_cons (ev_var (pv 2)) el_nil))))) (hfl := (ll_cons (ll_cons (ll_cons (ll_cons (ll_cons ll_nil))))))))
    eb_nil) eb_nil)
    (eb_cons (es_if (et_cmp (ec_gt G (ev_var (pv 2)) (ev_var (pv 1)))) (eb_cons (es_ret (ev_call G (ok_columns_of_ships D) (by decide) (by rfl) (el_cons ev_int (el_cons (ev_var (pv 0)) (el_cons ev_int (el_cons (ev_var (pv 1)) (el_cons (ev_var (pv 2)) el_nil))))) (hfl := (ll_cons (ll_cons (ll_cons (ll_cons (ll_cons ll_nil))))))))
    eb_nil) eb_nil)
    (eb_cons (es_par (i := 3) (j := 4) G G.nd rfl rfl (by decide) rfl rfl (el_cons (ev_mod (ev_var (pv 0)) (ev_var (pv 2))) (el_cons (ev_mod (ev_var (pv 1)) (ev_var (pv 2))) el_nil)))
    (eb_cons (es_if (et_cmp (ec_le G (ev_add (ev_var (pv 3)) (ev_var (pv 4))) (ev_var (pv 2)))) (eb_cons (es_set (i := 5) G.nd rfl (by first | exact .inl rfl | exact .inr rfl) (ev_call G (ok_columns_of_ships D) (by decide) (by rfl) (el_cons ev_int (el_cons (ev_sub (ev_var (pv 0)) (ev_var (pv 3))) (el_cons ev_int (el_cons (ev_var (pv 1)) (el_cons (ev_var (pv 2)) el_nil))))) (hfl := (ll_cons (ll_cons (ll_cons (ll_cons (ll_cons ll_nil))))))))
    (eb_cons (es_ret (ev_add (ev_var (pv 5)) (ev_call G (ok_rows_of_ships D) (by decide) (by rfl) (el_cons (ev_sub (ev_var (pv 0)) (ev_var (pv 3))) (el_cons (ev_var (pv 0)) (el_cons ev_int (el_cons (ev_var (pv 1)) (el_cons (ev_var (pv 2)) el_nil))))) (hfl := (ll_cons (ll_cons (ll_cons (ll_cons (ll_cons ll_nil)))))))))
    eb_nil)) eb_nil)
    (eb_cons (es_par (i := 6) (j := 7) G G.nd rfl rfl (by decide) rfl rfl (el_cons (ev_add (ev_var (pv 2)) (ev_var (pv 3))) (el_cons (ev_add (ev_var (pv 2)) (ev_var (pv 4))) el_nil)))
    (eb_cons (es_set (i := 5) G.nd rfl (by first | exact .inl rfl | exact .inr rfl) (ev_add (ev_call G (ok_columns_of_ships D) (by decide) (by rfl) (el_cons (ev_var (pv 6)) (el_cons (ev_var (pv 0)) (el_cons ev_int (el_cons (ev_var (pv 1)) (el_cons (ev_var (pv 2)) el_nil))))) (hfl := (ll_cons (ll_cons (ll_cons (ll_cons (ll_cons ll_nil))))))) (ev_call G (ok_rows_of_ships D) (by decide) (by rfl) (el_cons ev_int (el_cons (ev_var (pv 6)) (el_cons (ev_var (pv 7)) (el_cons (ev_var (pv 1)) (el_cons (ev_var (pv 2)) el_nil))))) (hfl := (ll_cons (ll_cons (ll_cons (ll_cons (ll_cons ll_nil)))))))))
    (eb_cons (es_set (i := 5) G.nd rfl (by first | exact .inl rfl | exact .inr rfl) (ev_add (ev_var (pv 5)) (ev_call G (ok_rows_of_ships D) (by decide) (by rfl) (el_cons ev_int (el_cons (ev_var (pv 3)) (el_cons ev_int (el_cons (ev_var (pv 2)) (el_cons (ev_var (pv 2)) el_nil))))) (hfl := (ll_cons (ll_cons (ll_cons (ll_cons (ll_cons ll_nil)))))))))
    (eb_cons (es_set (i := 5) G.nd rfl (by first | exact .inl rfl | exact .inr rfl) (ev_add (ev_var (pv 5)) (ev_call G (ok_columns_of_ships D) (by decide) (by rfl) (el_cons ev_int (el_cons (ev_var (pv 2)) (el_cons (ev_var (pv 2)) (el_cons (ev_var (pv 7)) (el_cons (ev_var (pv 2)) el_nil))))) (hfl := (ll_cons (ll_cons (ll_cons (ll_cons (ll_cons ll_nil)))))))))
    (eb_cons (es_set (i := 5) G.nd rfl (by first | exact .inl rfl | exact .inr rfl) (ev_add (ev_var (pv 5)) (ev_call G (ok_rows_of_ships D) (by decide) (by rfl) (el_cons (ev_var (pv 2)) (el_cons (ev_var (pv 6)) (el_cons (ev_var (pv 4)) (el_cons (ev_var (pv 7)) (el_cons (ev_var (pv 2)) el_nil))))) (hfl := (ll_cons (ll_cons (ll_cons (ll_cons (ll_cons ll_nil)))))))))
    (eb_cons (es_ret (ev_add (ev_var (pv 5)) (ev_call G (ok_columns_of_ships D) (by decide) (by rfl) (el_cons (ev_var (pv 3)) (el_cons (ev_var (pv 6)) (el_cons ev_int (el_cons (ev_var (pv 4)) (el_cons (ev_var (pv 2)) el_nil))))) (hfl := (ll_cons (ll_cons (ll_cons (ll_cons (ll_cons ll_nil)))))))))
    eb_nil))))))))))
theorem ok_net_cells (D : Top K mg) : FnT P w K mg base "net_cells" 1 3 m_net_cells := by
  obtain ⟨f, fd, F, hm, hb⟩ := D.d_net_cells
  exact fnD_of F sc_net_cells hm hb rfl fun cdv A outer s H E G =>
    (eb_cons (es_if (et_w (ew_and (et_cmp (ec_gt G (ev_var (pv 2)) (ev_var (pv 0)))) (ew_and1 (et_cmp (ec_gt G (ev_var (pv 2)) (ev_var (pv 1))))))) (eb_cons (es_ret (ev_lst el_nil))
    eb_nil) eb_nil)
    (eb_cons (es_setLc (i := 3) G rfl rfl (sw_true rfl rfl rfl (by decide +kernel)) (ei_range1 (by rfl) D.n_range (ev_var (pv 2))) (blkOk_by (N := N_net_cells) (sc := defScope s_net_cells) (own := [("rest", 7)]) (by first | decide +kernel | rfl)) (fun s1 H1 C1 cl1 fp1 => (eg_name (i := 7) (G.blk s1 H1 _ _ fp1).nd rfl (by first | exact .inl rfl | exact .inr rfl))) (fun s1 H1 C1 cl1 fp1 => ets_nil) (fun s1 H1 C1 cl1 fp1 => (ev_lst el_nil)))
    (eb_cons (es_for (is := [4]) [4, 5, 6] G (ei_range1 (by rfl) D.n_range (ev_var (pv 0))) (eg_name (i := 4) G.nd rfl (by first | exact .inl rfl | exact .inr rfl)) (eb_cons (es_for (is := [5]) [5, 6] G (ei_range1 (by rfl) D.n_range (ev_var (pv 1))) (eg_name (i := 5) G.nd rfl (by first | exact .inl rfl | exact .inr rfl)) (eb_cons (es_set (i := 6) G.nd rfl (by first | exact .inl rfl | exact .inr rfl) (ev_add (ev_var (pv 4)) (ev_var (pv 5))))
    (eb_cons (es_if (et_cmp (ec_gt G (ev_var (pv 2)) (ev_var (pv 0)))) (eb_cons (es_set (i := 6) G.nd rfl (by first | exact .inl rfl | exact .inr rfl) (ev_add (ev_var (pv 5)) ev_int))
    eb_nil) eb_nil)
    (eb_cons (es_if (et_cmp (ec_gt G (ev_var (pv 2)) (ev_var (pv 1)))) (eb_cons (es_set (i := 6) G.nd rfl (by first | exact .inl rfl | exact .inr rfl) (ev_add (ev_var (pv 4)) ev_int))
    eb_nil) eb_nil)
    (eb_cons (es_expr (ev_mutS opm_app (by decide) (pe_bm PySem.F.plainAttrs_list PySem.F.slot_list_append PySem.F.type_list_append mt_append (pe_ix (ixAll G) (pv 3) (ev_mod (ev_var (pv 6)) (ev_var (pv 2))) (by intro _ _; rfl)) (el_cons (ev_tup (el_cons (ev_var (pv 4)) (el_cons (ev_var (pv 5)) el_nil))) el_nil))))
    eb_nil)))))
    eb_nil))
    (eb_cons (es_if (et_w (ew_or (et_cmp (ec_gt G (ev_var (pv 2)) (ev_var (pv 0)))) (ew_or1 (et_cmp (ec_gt G (ev_var (pv 2)) (ev_var (pv 1))))))) (eb_cons (es_ret (ev_tkI (pv 3) pe_int))
    eb_nil) eb_nil)
    (eb_cons (es_ret (ev_tkM G (by rfl) D.n_min (by rfl) D.n_len (pv 3)))
    eb_nil)))))
theorem ok_net_of (D : Top K mg) : FnT P w K mg base "net_of" 4 3 m_net_of := by
  obtain ⟨f, fd, F, hm, hb⟩ := D.d_net_of
  exact fnD_of F sc_net_of hm hb rfl fun cdv A outer s H E G =>
    (eb_cons (es_ret (ev_tupO (el_cons (ev_call G (ok_net_cells D) (by decide) (by rfl) (el_cons (ev_var (pv 0)) (el_cons (ev_var (pv 1)) (el_cons (ev_var (pv 2)) el_nil))) (hfl := (ll_cons (ll_cons (ll_cons ll_nil))))) (el_cons (ev_b (b_sorted G D.n_sorted) (by rfl) (el_cons (ev_call G (ok_apart_ships D) (by decide) (by rfl) (el_cons (ev_var (pv 0)) (el_cons (ev_var (pv 1)) (el_cons (ev_var (pv 2)) el_nil))) (hfl := (ll_cons (ll_cons (ll_cons ll_nil))))) el_nil)) el_nil)) (n0 := 2) (by decide) (ll_cons (ll_cons ll_nil))))
    eb_nil)
theorem ok_least_net (D : Top K mg) : FnT P w K mg base "least_net" 2 3 m_least_net := by
  obtain ⟨f, fd, F, hm, hb⟩ := D.d_least_net
  exact fnD_of F sc_least_net hm hb rfl fun cdv A outer s H E G =>
    (eb_cons (es_ret (ev_b (b_len D.n_len) (by rfl) (el_cons (ev_call G (ok_net_cells D) (by decide) (by rfl) (el_cons (ev_var (pv 0)) (el_cons (ev_var (pv 1)) (el_cons (ev_var (pv 2)) el_nil))) (hfl := (ll_cons (ll_cons (ll_cons ll_nil))))) el_nil)))
    eb_nil)
theorem ok_is_net (D : Top K mg) : FnT P w K mg base "is_net" 2 4 m_is_net := by
  obtain ⟨f, fd, F, hm, hb⟩ := D.d_is_net
  exact fnD_of F sc_is_net hm hb rfl fun cdv A outer s H E G =>
    (eb_cons (es_set (i := 4) G.nd rfl (by first | exact .inl rfl | exact .inr rfl) ev_dT)
    (eb_cons (es_for (is := [5]) [5] G (ei_val (ev_var (pv 3))) (eg_name (i := 5) G.nd rfl (by first | exact .inl rfl | exact .inr rfl)) (eb_cons (es_if (et_w (ew_or (et_cmp (ec_inR G (ev_var (pv 5)) (pv 4))) (ew_or (et_not (et_lelt G ev_int (ev_sub_ix G (ev_var (pv 5)) ev_int) (ev_var (pv 0)))) (ew_or1 (et_not (et_lelt G ev_int (ev_sub_ix G (ev_var (pv 5)) ev_int) (ev_var (pv 1)))))))) (eb_cons (es_ret ev_bl)
    eb_nil) eb_nil)
    (eb_cons (es_setIx (i := 4) G (pv 4) (ev_var (pv 5)) ev_bl)
    eb_nil)))
    (eb_cons (es_for (is := [6]) [5, 6, 7, 8] G (ei_val (ev_tup (el_cons ev_str (el_cons ev_str el_nil)))) (eg_name (i := 6) G.nd rfl (by first | exact .inl rfl | exact .inr rfl)) (eb_cons (es_for (is := [7]) [5, 7, 8] G (ei_range1 (by rfl) D.n_range (ev_sub (ev_var (pv 0)) (ev_mul (ev_sub (ev_var (pv 2)) ev_int) (ev_ty (b_int D.n_int) (by rfl) (el_cons (ee_cmp (ec_eq G (ev_var (pv 6)) ev_str)) el_nil))))) (eg_name (i := 7) G.nd rfl (by first | exact .inl rfl | exact .inr rfl)) (eb_cons (es_for (is := [8]) [5, 8] G (ei_range1 (by rfl) D.n_range (ev_sub (ev_var (pv 1)) (ev_mul (ev_sub (ev_var (pv 2)) ev_int) (ev_ty (b_int D.n_int) (by rfl) (el_cons (ee_cmp (ec_eq G (ev_var (pv 6)) ev_str)) el_nil))))) (eg_name (i := 8) G.nd rfl (by first | exact .inl rfl | exact .inr rfl)) (eb_cons (es_if (et_not (et_val (ev_b (b_any G.calm D.n_any) (by rfl) (el_cons (ev_lc (own := [("cell", 5)]) G (ei_val (ev_call G (ok_cells_of D) (by decide) (by rfl) (el_cons (ev_tup (el_cons (ev_var (pv 7)) (el_cons (ev_var (pv 8)) (el_cons (ev_var (pv 6)) (el_cons (ev_var (pv 2)) el_nil))))) el_nil) (hfl := (ll_cons ll_nil)))) (blkOk_by (N := N_is_net) (sc := defScope s_is_net) (own := [("cell", 5)]) (by first | decide +kernel | rfl)) (fun s1 H1 C1 cl1 fp1 => (eg_name (i := 5) (G.blk s1 H1 _ _ fp1).nd rfl (by first | exact .inl rfl | exact .inr rfl))) (fun s1 H1 C1 cl1 fp1 => ets_nil) (fun s1 H1 C1 cl1 fp1 => (ee_cmp (ec_in (G.blk s1 H1 _ _ fp1) (ev_var (pv 5)) (ev_var (pv 4)))))) el_nil)))) (eb_cons (es_ret ev_bl)
    eb_nil) eb_nil)
    eb_nil))
    eb_nil))
    eb_nil))
    (eb_cons (es_ret ev_bl)
    eb_nil))))
theorem ok_lie_apart (D : Top K mg) : FnT P w K mg base "lie_apart" 2 1 m_lie_apart := by
  obtain ⟨f, fd, F, hm, hb⟩ := D.d_lie_apart
  exact fnD_of F sc_lie_apart hm hb rfl fun cdv A outer s H E G =>
    (eb_cons (es_set (i := 1) G.nd rfl (by first | exact .inl rfl | exact .inr rfl) ev_dT)
    (eb_cons (es_for (is := [2]) [2, 3] G (ei_val (ev_var (pv 0))) (eg_name (i := 2) G.nd rfl (by first | exact .inl rfl | exact .inr rfl)) (eb_cons (es_for (is := [3]) [3] G (ei_val (ev_call G (ok_cells_of D) (by decide) (by rfl) (el_cons (ev_var (pv 2)) el_nil) (hfl := (ll_cons ll_nil)))) (eg_name (i := 3) G.nd rfl (by first | exact .inl rfl | exact .inr rfl)) (eb_cons (es_if (et_cmp (ec_inR G (ev_var (pv 3)) (pv 1))) (eb_cons (es_ret ev_bl)
    eb_nil) eb_nil)
    (eb_cons (es_setIx (i := 1) G (pv 1) (ev_var (pv 3)) ev_bl)
    eb_nil)))
    eb_nil))
    (eb_cons (es_ret ev_bl)
    eb_nil)))
theorem ok__law_stir (D : Top K mg) : FnT P w K mg base "_law_stir" 1 2 m__law_stir := by
  obtain ⟨f, fd, F, hm, hb⟩ := D.d__law_stir
  exact fnD_of F sc__law_stir hm hb rfl fun cdv A outer s H E G =>
    (eb_cons (es_set (i := 2) G.nd rfl (by first | exact .inl rfl | exact .inr rfl) (ev_mul (ev_add (ev_add (ev_mod (ev_var (pv 0)) (ev_pow ev_int ev_int)) (ev_mul ev_int (ev_var (pv 1)))) ev_int) ev_int))
    (eb_cons (es_set (i := 2) G.nd rfl (by first | exact .inl rfl | exact .inr rfl) (ev_mod (ev_var (pv 2)) ev_int))
    (eb_cons (es_ret (ev_fdiv (ev_mod (ev_pow (ev_add (ev_pow (ev_var (pv 2)) ev_int) (ev_mul ev_int (ev_var (pv 1)))) ev_int) ev_int) ev_int))
    eb_nil)))
theorem ok__law_drawn (D : Top K mg) : FnT P w K mg base "_law_drawn" 2 2 m__law_drawn := by
  obtain ⟨f, fd, F, hm, hb⟩ := D.d__law_drawn
  exact fnD_of F sc__law_drawn hm hb rfl fun cdv A outer s H E G =>
    (eb_cons (es_set (i := 2) G.nd rfl (by first | exact .inl rfl | exact .inr rfl) (ev_lst el_nil))
    (eb_cons (es_set (i := 3) G.nd rfl (by first | exact .inl rfl | exact .inr rfl) (ev_var (pv 0)))
    (eb_cons (es_for (is := [4]) [4] G (ei_range1 (by rfl) D.n_range (ev_b (b_len D.n_len) (by rfl) (el_cons (ev_var (pv 1)) el_nil))) (eg_name (i := 4) G.nd rfl (by first | exact .inl rfl | exact .inr rfl)) (eb_cons (es_if (et_w (ew_or (et_cmp (ec_lt G (ev_var (pv 0)) (ev_pow ev_int ev_int))) (ew_or1 (et_cmp (ec_eq G (ev_var (pv 3)) ev_int))))) (eb_cons (es_expr (ev_mt opm_app (by decide) (pe_bm PySem.F.plainAttrs_list PySem.F.slot_list_append PySem.F.type_list_append mt_append (pv 2) (el_cons (ev_mod (ev_call G (ok__law_stir D) (by decide) (by rfl) (el_cons (ev_var (pv 0)) (el_cons (ev_var (pv 4)) el_nil)) (hfl := (ll_cons (ll_cons ll_nil)))) (ev_sub_ix G (ev_var (pv 1)) (ev_var (pv 4)))) el_nil))))
    eb_nil) (eb_cons (es_expr (ev_mt opm_app (by decide) (pe_bm PySem.F.plainAttrs_list PySem.F.slot_list_append PySem.F.type_list_append mt_append (pv 2) (el_cons (ev_mod (ev_var (pv 3)) (ev_sub_ix G (ev_var (pv 1)) (ev_var (pv 4)))) el_nil))))
    (eb_cons (es_set (i := 3) G.nd rfl (by first | exact .inl rfl | exact .inr rfl) (ev_fdiv (ev_var (pv 3)) (ev_sub_ix G (ev_var (pv 1)) (ev_var (pv 4)))))
    eb_nil)))
    eb_nil))
    (eb_cons (es_ret (ev_mv (pv 2)))
    eb_nil))))
theorem ok__law_cells (D : Top K mg) : FnT P w K mg base "_law_cells" 1 1 m__law_cells := by
  obtain ⟨f, fd, F, hm, hb⟩ := D.d__law_cells
  exact fnD_of F sc__law_cells hm hb rfl fun cdv A outer s H E G =>
    (eb_cons (es_asg (is := [1, 2, 3, 4]) (ev_var (pv 0)) (eg_tup G (egs_cons (eg_name (i := 1) G.nd rfl (by first | exact .inl rfl | exact .inr rfl)) (egs_cons (eg_name (i := 2) G.nd rfl (by first | exact .inl rfl | exact .inr rfl)) (egs_cons (eg_name (i := 3) G.nd rfl (by first | exact .inl rfl | exact .inr rfl)) (egs_cons (eg_name (i := 4) G.nd rfl (by first | exact .inl rfl | exact .inr rfl)) egs_nil))))))
    (eb_cons (es_set (i := 5) G.nd rfl (by first | exact .inl rfl | exact .inr rfl) (ev_lst el_nil))
    (eb_cons (es_for (is := [6]) [6] G (ei_range1 (by rfl) D.n_range (ev_var (pv 4))) (eg_name (i := 6) G.nd rfl (by first | exact .inl rfl | exact .inr rfl)) (eb_cons (es_expr (ev_mt opm_app (by decide) (pe_bm PySem.F.plainAttrs_list PySem.F.slot_list_append PySem.F.type_list_append mt_append (pv 5) (el_cons (ev_tup (el_cons (ev_add (ev_var (pv 1)) (ev_mul (ev_var (pv 6)) (ev_ty (b_int D.n_int) (by rfl) (el_cons (ee_cmp (ec_eq G (ev_var (pv 3)) ev_str)) el_nil)))) (el_cons (ev_add (ev_var (pv 2)) (ev_mul (ev_var (pv 6)) (ev_ty (b_int D.n_int) (by rfl) (el_cons (ee_cmp (ec_eq G (ev_var (pv 3)) ev_str)) el_nil)))) el_nil))) el_nil))))
    eb_nil))
    (eb_cons (es_ret (ev_mv (pv 5)))
    eb_nil))))
theorem ok__law_runs (D : Top K mg) : FnT P w K mg base "_law_runs" 1 3 m__law_runs := by
  obtain ⟨f, fd, F, hm, hb⟩ := D.d__law_runs
  exact fnD_of F sc__law_runs hm hb rfl fun cdv A outer s H E G =>
    (eb_cons (es_set (i := 3) G.nd rfl (by first | exact .inl rfl | exact .inr rfl) (ev_lst el_nil))
    (eb_cons (es_for (is := [4]) [4, 5, 6] G (ei_range1 (by rfl) D.n_range (ev_var (pv 0))) (eg_name (i := 4) G.nd rfl (by first | exact .inl rfl | exact .inr rfl)) (eb_cons (es_for (is := [5]) [5, 6] G (ei_range1 (by rfl) D.n_range (ev_add (ev_sub (ev_var (pv 1)) (ev_var (pv 2))) ev_int)) (eg_name (i := 5) G.nd rfl (by first | exact .inl rfl | exact .inr rfl)) (eb_cons (es_expr (ev_mt opm_app (by decide) (pe_bm PySem.F.plainAttrs_list PySem.F.slot_list_append PySem.F.type_list_append mt_append (pv 3) (el_cons (ev_lc (own := [("k", 6)]) G (ei_range1 (by rfl) D.n_range (ev_var (pv 2))) (blkOk_by (N := N__law_runs) (sc := defScope s__law_runs) (own := [("k", 6)]) (by first | decide +kernel | rfl)) (fun s1 H1 C1 cl1 fp1 => (eg_name (i := 6) (G.blk s1 H1 _ _ fp1).nd rfl (by first | exact .inl rfl | exact .inr rfl))) (fun s1 H1 C1 cl1 fp1 => ets_nil) (fun s1 H1 C1 cl1 fp1 => (ev_tup (el_cons (ev_var (pv 4)) (el_cons (ev_add (ev_var (pv 5)) (ev_var (pv 6))) el_nil))))) el_nil))))
    eb_nil))
    eb_nil))
    (eb_cons (es_for (is := [4]) [4, 5, 6] G (ei_range1 (by rfl) D.n_range (ev_mul (ev_add (ev_sub (ev_var (pv 0)) (ev_var (pv 2))) ev_int) (ev_ty (b_int D.n_int) (by rfl) (el_cons (ee_cmp (ec_gt G (ev_var (pv 2)) ev_int)) el_nil)))) (eg_name (i := 4) G.nd rfl (by first | exact .inl rfl | exact .inr rfl)) (eb_cons (es_for (is := [5]) [5, 6] G (ei_range1 (by rfl) D.n_range (ev_var (pv 1))) (eg_name (i := 5) G.nd rfl (by first | exact .inl rfl | exact .inr rfl)) (eb_cons (es_expr (ev_mt opm_app (by decide) (pe_bm PySem.F.plainAttrs_list PySem.F.slot_list_append PySem.F.type_list_append mt_append (pv 3) (el_cons (ev_lc (own := [("k", 6)]) G (ei_range1 (by rfl) D.n_range (ev_var (pv 2))) (blkOk_by (N := N__law_runs) (sc := defScope s__law_runs) (own := [("k", 6)]) (by first | decide +kernel | rfl)) (fun s1 H1 C1 cl1 fp1 => (eg_name (i := 6) (G.blk s1 H1 _ _ fp1).nd rfl (by first | exact .inl rfl | exact .inr rfl))) (fun s1 H1 C1 cl1 fp1 => ets_nil) (fun s1 H1 C1 cl1 fp1 => (ev_tup (el_cons (ev_add (ev_var (pv 4)) (ev_var (pv 6))) (el_cons (ev_var (pv 5)) el_nil))))) el_nil))))
    eb_nil))
    eb_nil))
    (eb_cons (es_ret (ev_mv (pv 3)))
    eb_nil))))
theorem ok__law_is_net (D : Top K mg) : FnT P w K mg base "_law_is_net" 2 4 m__law_is_net := by
  obtain ⟨f, fd, F, hm, hb⟩ := D.d__law_is_net
  exact fnD_of F sc__law_is_net hm hb rfl fun cdv A outer s H E G =>
    (eb_cons (es_set (i := 4) G.nd rfl (by first | exact .inl rfl | exact .inr rfl) (ev_ty (b_dict2 G D.n_dict) (by rfl) (el_cons (ev_lc (own := [("cell", 6)]) G (ei_val (ev_var (pv 3))) (blkOk_by (N := N__law_is_net) (sc := defScope s__law_is_net) (own := [("cell", 6)]) (by first | decide +kernel | rfl)) (fun s1 H1 C1 cl1 fp1 => (eg_name (i := 6) (G.blk s1 H1 _ _ fp1).nd rfl (by first | exact .inl rfl | exact .inr rfl))) (fun s1 H1 C1 cl1 fp1 => ets_nil) (fun s1 H1 C1 cl1 fp1 => (ev_tup (el_cons (ev_var (pv 6)) (el_cons ev_bl el_nil))))) el_nil)))
    (eb_cons (es_if (et_cmp (ec_ne G (ev_b (b_len D.n_len) (by rfl) (el_cons (ev_var (pv 4)) el_nil)) (ev_b (b_len D.n_len) (by rfl) (el_cons (ev_var (pv 3)) el_nil)))) (eb_cons (es_ret ev_bl)
    eb_nil) eb_nil)
    (eb_cons (es_if (et_cmp (ec_ne G (ev_lc (own := [("cell", 6)]) G (ei_val (ev_var (pv 3))) (blkOk_by (N := N__law_is_net) (sc := defScope s__law_is_net) (own := [("cell", 6)]) (by first | decide +kernel | rfl)) (fun s1 H1 C1 cl1 fp1 => (eg_name (i := 6) (G.blk s1 H1 _ _ fp1).nd rfl (by first | exact .inl rfl | exact .inr rfl))) (fun s1 H1 C1 cl1 fp1 => (ets_one (et_not (et_w (ew_and (et_lelt (G.blk s1 H1 _ _ fp1) ev_int (ev_sub_ix (G.blk s1 H1 _ _ fp1) (ev_var (pv 6)) ev_int) (ev_var (pv 0))) (ew_and1 (et_lelt (G.blk s1 H1 _ _ fp1) ev_int (ev_sub_ix (G.blk s1 H1 _ _ fp1) (ev_var (pv 6)) ev_int) (ev_var (pv 1))))))))) (fun s1 H1 C1 cl1 fp1 => (ev_var (pv 6)))) (ev_lst el_nil))) (eb_cons (es_ret ev_bl)
    eb_nil) eb_nil)
    (eb_cons (es_for (is := [5]) [5, 6] G (ei_val (ev_call G (ok__law_runs D) (by decide) (by rfl) (el_cons (ev_var (pv 0)) (el_cons (ev_var (pv 1)) (el_cons (ev_var (pv 2)) el_nil))) (hfl := (ll_cons (ll_cons (ll_cons ll_nil)))))) (eg_name (i := 5) G.nd rfl (by first | exact .inl rfl | exact .inr rfl)) (eb_cons (es_if (et_cmp (ec_eq G (ev_lc (own := [("cell", 6)]) G (ei_val (ev_var (pv 5))) (blkOk_by (N := N__law_is_net) (sc := defScope s__law_is_net) (own := [("cell", 6)]) (by first | decide +kernel | rfl)) (fun s1 H1 C1 cl1 fp1 => (eg_name (i := 6) (G.blk s1 H1 _ _ fp1).nd rfl (by first | exact .inl rfl | exact .inr rfl))) (fun s1 H1 C1 cl1 fp1 => (ets_one (et_cmp (ec_in (G.blk s1 H1 _ _ fp1) (ev_var (pv 6)) (ev_var (pv 4)))))) (fun s1 H1 C1 cl1 fp1 => (ev_var (pv 6)))) (ev_lst el_nil))) (eb_cons (es_ret ev_bl)
    eb_nil) eb_nil)
    eb_nil))
    (eb_cons (es_ret ev_bl)
    eb_nil)))))
theorem ok__law_apart (D : Top K mg) : FnT P w K mg base "_law_apart" 2 1 m__law_apart := by
  obtain ⟨f, fd, F, hm, hb⟩ := D.d__law_apart
  exact fnD_of F sc__law_apart hm hb rfl fun cdv A outer s H E G =>
    (eb_cons (es_set (i := 1) G.nd rfl (by first | exact .inl rfl | exact .inr rfl) ev_dT)
    (eb_cons (es_for (is := [2]) [2, 3] G (ei_val (ev_var (pv 0))) (eg_name (i := 2) G.nd rfl (by first | exact .inl rfl | exact .inr rfl)) (eb_cons (es_for (is := [3]) [3] G (ei_val (ev_call G (ok__law_cells D) (by decide) (by rfl) (el_cons (ev_var (pv 2)) el_nil) (hfl := (ll_cons ll_nil)))) (eg_name (i := 3) G.nd rfl (by first | exact .inl rfl | exact .inr rfl)) (eb_cons (es_if (et_cmp (ec_inR G (ev_var (pv 3)) (pv 1))) (eb_cons (es_ret ev_bl)
    eb_nil) eb_nil)
    (eb_cons (es_setIx (i := 1) G (pv 1) (ev_var (pv 3)) ev_bl)
    eb_nil)))
    eb_nil))
    (eb_cons (es_ret ev_bl)
    eb_nil)))
theorem ok__law_sizes (D : Top K mg) : FnT P w K mg base "_law_sizes" 3 1 m__law_sizes := by
  obtain ⟨f, fd, F, hm, hb⟩ := D.d__law_sizes
  exact fnD_of F sc__law_sizes hm hb rfl fun cdv A outer s H E G =>
    (eb_cons (es_asg (is := [1, 2, 3, 4, 5, 6]) (ev_call G (ok__law_drawn D) (by decide) (by rfl) (el_cons (ev_var (pv 0)) (el_cons (ev_lst (el_cons ev_int (el_cons ev_int (el_cons ev_int (el_cons ev_int (el_cons ev_int (el_cons ev_int el_nil))))))) el_nil)) (hfl := (ll_cons (ll_cons ll_nil)))) (eg_tup G (egs_cons (eg_name (i := 1) G.nd rfl (by first | exact .inl rfl | exact .inr rfl)) (egs_cons (eg_name (i := 2) G.nd rfl (by first | exact .inl rfl | exact .inr rfl)) (egs_cons (eg_name (i := 3) G.nd rfl (by first | exact .inl rfl | exact .inr rfl)) (egs_cons (eg_name (i := 4) G.nd rfl (by first | exact .inl rfl | exact .inr rfl)) (egs_cons (eg_name (i := 5) G.nd rfl (by first | exact .inl rfl | exact .inr rfl)) (egs_cons (eg_name (i := 6) G.nd rfl (by first | exact .inl rfl | exact .inr rfl)) egs_nil))))))))
    (eb_cons (es_if (et_cmp (ec_lt G (ev_var (pv 1)) ev_int)) (eb_cons (es_ret (ev_tup (el_cons (ev_add ev_int (ev_mod (ev_var (pv 2)) ev_int)) (el_cons (ev_add ev_int (ev_mod (ev_var (pv 3)) ev_int)) (el_cons (ev_add ev_int (ev_mod (ev_var (pv 4)) ev_int)) el_nil)))))
    eb_nil) eb_nil)
    (eb_cons (es_if (et_cmp (ec_eq G (ev_var (pv 1)) ev_int)) (eb_cons (es_ret (ev_tup (el_cons (ev_add ev_int (ev_var (pv 2))) (el_cons (ev_add ev_int (ev_var (pv 3))) (el_cons (ev_add ev_int (ev_var (pv 4))) el_nil)))))
    eb_nil) eb_nil)
    (eb_cons (es_set (i := 4) G.nd rfl (by first | exact .inl rfl | exact .inr rfl) (ev_add ev_int (ev_mod (ev_var (pv 4)) ev_int)))
    (eb_cons (es_if (et_cmp (ec_eq G (ev_var (pv 1)) ev_int)) (eb_cons (es_ret (ev_tup (el_cons (ev_add ev_int (ev_var (pv 2))) (el_cons (ev_add ev_int (ev_var (pv 3))) (el_cons (ev_var (pv 4)) el_nil)))))
    eb_nil) eb_nil)
    (eb_cons (es_set (i := 7) G.nd rfl (by first | exact .inl rfl | exact .inr rfl) (ev_b (b_min G.calm D.n_min) (by rfl) (el_cons ev_int (el_cons (ev_add (ev_mul (ev_var (pv 4)) (ev_add ev_int (ev_mod (ev_var (pv 5)) ev_int))) (ev_mod (ev_var (pv 2)) (ev_var (pv 4)))) el_nil))))
    (eb_cons (es_set (i := 8) G.nd rfl (by first | exact .inl rfl | exact .inr rfl) (ev_b (b_min G.calm D.n_min) (by rfl) (el_cons ev_int (el_cons (ev_add (ev_mul (ev_var (pv 4)) (ev_add ev_int (ev_mod (ev_var (pv 6)) ev_int))) (ev_mod (ev_var (pv 3)) (ev_var (pv 4)))) el_nil))))
    (eb_cons (es_ret (ev_tup (el_cons (ev_var (pv 7)) (el_cons (ev_sub_ix G (ev_lst (el_cons (ev_var (pv 8)) (el_cons (ev_add ev_int (ev_mod (ev_var (pv 3)) (ev_var (pv 4)))) el_nil))) (ev_sub (ev_var (pv 1)) ev_int)) (el_cons (ev_var (pv 4)) el_nil)))))
    eb_nil))))))))
theorem ok__law_ships_right (D : Top K mg) : FnT P w K mg base "_law_ships_right" 3 4 m__law_ships_right := by
  obtain ⟨f, fd, F, hm, hb⟩ := D.d__law_ships_right
  exact fnD_of F sc__law_ships_right hm hb rfl fun cdv A outer s H E G =>
    (eb_cons (es_for (is := [4]) [4, 5, 6] G (ei_val (ev_var (pv 3))) (eg_name (i := 4) G.nd rfl (by first | exact .inl rfl | exact .inr rfl)) (eb_cons (es_if (et_w (ew_or (et_not (et_val (ev_isi (T := "tuple") (by rfl) D.n_isinstance (by decide) (pe_bltn (v := .ty "tuple") (by rfl) D.n_tuple boot_tuple rfl) (ev_var (pv 4))))) (ew_or (et_cmp (ec_ne G (ev_b (b_len D.n_len) (by rfl) (el_cons (ev_var (pv 4)) el_nil)) ev_int)) (ew_or (et_cmp (ec_ne G (ev_sub_ix G (ev_var (pv 4)) ev_int) (ev_var (pv 2)))) (ew_or1 (et_cmp (ec_notin G (ev_sub_ix G (ev_var (pv 4)) ev_int) (ev_tup (el_cons ev_str (el_cons ev_str el_nil)))))))))) (eb_cons (es_ret ev_bl)
    eb_nil) eb_nil)
    (eb_cons (es_if (et_w (ew_and (et_cmp (ec_eq G (ev_var (pv 2)) ev_int)) (ew_and1 (et_cmp (ec_eq G (ev_sub_ix G (ev_var (pv 4)) ev_int) ev_str))))) (eb_cons (es_ret ev_bl)
    eb_nil) eb_nil)
    (eb_cons (es_for (is := [5, 6]) [5, 6] G (ei_val (ev_call G (ok__law_cells D) (by decide) (by rfl) (el_cons (ev_var (pv 4)) el_nil) (hfl := (ll_cons ll_nil)))) (eg_tup G (egs_cons (eg_name (i := 5) G.nd rfl (by first | exact .inl rfl | exact .inr rfl)) (egs_cons (eg_name (i := 6) G.nd rfl (by first | exact .inl rfl | exact .inr rfl)) egs_nil))) (eb_cons (es_if (et_w (ew_or (et_cmp (ec_lt G (ev_var (pv 5)) ev_int)) (ew_or (et_cmp (ec_ge G (ev_var (pv 5)) (ev_var (pv 0)))) (ew_or (et_cmp (ec_lt G (ev_var (pv 6)) ev_int)) (ew_or1 (et_cmp (ec_ge G (ev_var (pv 6)) (ev_var (pv 1))))))))) (eb_cons (es_ret ev_bl)
    eb_nil) eb_nil)
    eb_nil))
    eb_nil))))
    (eb_cons (es_ret (ev_and (ee_cmp (ec_eq G (ev_var (pv 3)) (ev_b (b_sorted G D.n_sorted) (by rfl) (el_cons (ev_var (pv 3)) el_nil)))) (ev_one (ev_call G (ok__law_apart D) (by decide) (by rfl) (el_cons (ev_var (pv 3)) el_nil) (hfl := (ll_cons ll_nil))))))
    eb_nil))
theorem ok_law {f : Addr} {fd : FuncData} (D : Top K mg) (F : FunD K "law" "law" (defArgs s_law) (defBody s_law) (defScope s_law) [] [] f fd) : FnOk P w K mg base (L2.CX P w) 5 f fd ["script"] (spP K mg 1 m_law) :=
  fnOk_of F sc_law rfl fun cdv A outer s H E G =>
    (eb_cons (es_for (is := [1]) [1, 2, 3, 4, 5, 6, 7, 8, 9] G (ei_val (ev_add (ev_lst (el_cons ev_int el_nil)) (ev_sl (ev_var (pv 0)) eo_none (eo_some ev_int)))) (eg_name (i := 1) G.nd rfl (by first | exact .inl rfl | exact .inr rfl)) (eb_cons (es_asg (is := [2, 3, 4]) (ev_call G (ok__law_sizes D) (by decide) (by rfl) (el_cons (ev_var (pv 1)) el_nil) (hfl := (ll_cons ll_nil))) (eg_tup G (egs_cons (eg_name (i := 2) G.nd rfl (by first | exact .inl rfl | exact .inr rfl)) (egs_cons (eg_name (i := 3) G.nd rfl (by first | exact .inl rfl | exact .inr rfl)) (egs_cons (eg_name (i := 4) G.nd rfl (by first | exact .inl rfl | exact .inr rfl)) egs_nil)))))
    (eb_cons (es_set (i := 5) G.nd rfl (by first | exact .inl rfl | exact .inr rfl) (ev_call G (ok_net_of D) (by decide) (by rfl) (el_cons (ev_var (pv 2)) (el_cons (ev_var (pv 3)) (el_cons (ev_var (pv 4)) el_nil))) (hfl := (ll_cons (ll_cons (ll_cons ll_nil))))))
    (eb_cons (es_if (et_w (ew_or (et_not (et_thaw (i := 5) (et_val (ev_isi (T := "tuple") (by rfl) D.n_isinstance (by decide) (pe_bltn (v := .ty "tuple") (by rfl) D.n_tuple boot_tuple rfl) (ev_var (pv 5)))))) (ew_or1 (et_thaw (i := 5) (et_cmp (ec_ne G (ev_lc (own := [("part", 9)]) G (ei_val (ev_var (pv 5))) (blkOk_by (N := N_law) (sc := defScope s_law) (own := [("part", 9)]) (by first | decide +kernel | rfl)) (fun s1 H1 C1 cl1 fp1 => (eg_name (i := 9) (G.blk s1 H1 _ _ fp1).nd rfl (by first | exact .inl rfl | exact .inr rfl))) (fun s1 H1 C1 cl1 fp1 => (ets_one (et_not (et_val (ev_isi (T := "list") (by rfl) D.n_isinstance (by decide) (pe_bltn (v := .ty "list") (by rfl) D.n_list boot_list rfl) (ev_var (pv 9))))))) (fun s1 H1 C1 cl1 fp1 => (ev_var (pv 9)))) (ev_lst el_nil))))))) (eb_cons (es_ret ev_bl)
    eb_nil) eb_nil)
    (eb_unp (ix := 6) (iy := 7) (iz := 5) G (pv 5) (pv 5) G.nd rfl rfl (by first | exact .inl rfl | exact .inr rfl) (by first | exact .inl rfl | exact .inr rfl) rfl (by first | exact .inl rfl | exact .inr rfl) (by first | exact .inl rfl | exact .inr rfl) (by rfl) D.n_len (ew_or (et_cmp (ec_ne G (ev_lenB (by rfl) D.n_len (pv 6)) (ev_lenB (by rfl) D.n_len (pv 7)))) (ew_or1 (et_thaw (i := 6) (et_cmp (ec_ne G (ev_var (pv 6)) (ev_b (b_sorted G D.n_sorted) (by rfl) (el_cons (ev_var (pv 6)) el_nil))))))) (eb_cons (es_ret ev_bl)
    eb_nil)
    (eb_cons (es_if (et_w (ew_or (et_not (et_thaw (i := 6) (et_val (ev_call G (ok__law_is_net D) (by decide) (by rfl) (el_cons (ev_var (pv 2)) (el_cons (ev_var (pv 3)) (el_cons (ev_var (pv 4)) (el_cons (ev_var (pv 6)) el_nil)))) (hfl := (ll_cons (ll_cons (ll_cons (ll_cons ll_nil))))))))) (ew_or1 (et_not (et_thaw (i := 7) (et_val (ev_call G (ok__law_ships_right D) (by decide) (by rfl) (el_cons (ev_var (pv 2)) (el_cons (ev_var (pv 3)) (el_cons (ev_var (pv 4)) (el_cons (ev_var (pv 7)) el_nil)))) (hfl := (ll_cons (ll_cons (ll_cons (ll_cons ll_nil)))))))))))) (eb_cons (es_ret ev_bl)
    eb_nil) eb_nil)
    (eb_cons (es_if (et_w (ew_or (et_thaw (i := 6) (et_cmp (ec_isntB (ev_call G (ok_is_net D) (by decide) (by rfl) (el_cons (ev_var (pv 2)) (el_cons (ev_var (pv 3)) (el_cons (ev_var (pv 4)) (el_cons (ev_ty (b_list D.n_list) (by rfl) (el_cons (ev_var (pv 6)) el_nil)) el_nil)))) (hfl := (ll_cons (ll_cons (ll_cons (ll_cons ll_nil)))))) ev_bl))) (ew_or1 (et_thaw (i := 7) (et_cmp (ec_isntB (ev_call G (ok_lie_apart D) (by decide) (by rfl) (el_cons (ev_ty (b_list D.n_list) (by rfl) (el_cons (ev_var (pv 7)) el_nil)) el_nil) (hfl := (ll_cons ll_nil))) ev_bl)))))) (eb_cons (es_ret ev_bl)
    eb_nil) eb_nil)
    (eb_cons (es_if (et_cmp (ec_ne G (ev_call G (ok_least_net D) (by decide) (by rfl) (el_cons (ev_var (pv 2)) (el_cons (ev_var (pv 3)) (el_cons (ev_var (pv 4)) el_nil))) (hfl := (ll_cons (ll_cons (ll_cons ll_nil))))) (ev_lenB (by rfl) D.n_len (pv 6)))) (eb_cons (es_ret ev_bl)
    eb_nil) eb_nil)
    (eb_cons (es_set (i := 8) G.nd rfl (by first | exact .inl rfl | exact .inr rfl) (ev_tup (el_cons (ev_cpB (by rfl) D.n_list (pv 6)) (el_cons (ev_cpB (by rfl) D.n_list (pv 7)) el_nil))))
    (eb_cons (es_expr (ev_mt opm_app (by decide) (pe_bm PySem.F.plainAttrs_list PySem.F.slot_list_append PySem.F.type_list_append mt_append (pv 6) (el_cons (ev_tup (el_cons ev_int (el_cons ev_int el_nil))) el_nil))))
    (eb_cons (es_expr (ev_mt opm_app (by decide) (pe_bm PySem.F.plainAttrs_list PySem.F.slot_list_append PySem.F.type_list_append mt_append (pv 7) (el_cons ev_non el_nil))))
    (eb_cons (es_if (et_cmp (ec_ne G (ev_call G (ok_net_of D) (by decide) (by rfl) (el_cons (ev_var (pv 2)) (el_cons (ev_var (pv 3)) (el_cons (ev_var (pv 4)) el_nil))) (hfl := (ll_cons (ll_cons (ll_cons ll_nil))))) (ev_var (pv 8)))) (eb_cons (es_ret ev_bl)
    eb_nil) eb_nil)
    eb_nil))))))))))))
    (eb_cons (es_ret ev_bl)
    eb_nil))
end
theorem topL {w : World} {K : PySem.W.Frag} {h : Heap} {mg : Str → Option Value} (X : K.In h) (G : h.Ns mainGlobals mg) (c : He.SaysX faL fnL [] [] exL w h K) : Top K mg where
  d_cells_of := by
    obtain ⟨fd, F⟩ := c.t.d.def_ 0 (d := dd_cells_of) rfl
    exact ⟨_, fd, F, He.glo_ok X G (c.t.d.fact 0 (f := .glo "cells_of") rfl), FunD.bindsN F fun _ _ _ _ _ _ us hl => match us, hl with | [_], _ => rfl⟩
  d_rows_of_ships := by
    obtain ⟨fd, F⟩ := c.t.d.def_ 1 (d := dd_rows_of_ships) rfl
    exact ⟨_, fd, F, He.glo_ok X G (c.t.d.fact 1 (f := .glo "rows_of_ships") rfl), FunD.bindsN F fun _ _ _ _ _ _ us hl => match us, hl with | [_, _, _, _, _], _ => rfl⟩
  d_columns_of_ships := by
    obtain ⟨fd, F⟩ := c.t.d.def_ 2 (d := dd_columns_of_ships) rfl
    exact ⟨_, fd, F, He.glo_ok X G (c.t.d.fact 2 (f := .glo "columns_of_ships") rfl), FunD.bindsN F fun _ _ _ _ _ _ us hl => match us, hl with | [_, _, _, _, _], _ => rfl⟩
  d_apart_ships := by
    obtain ⟨fd, F⟩ := c.t.d.def_ 3 (d := dd_apart_ships) rfl
    exact ⟨_, fd, F, He.glo_ok X G (c.t.d.fact 3 (f := .glo "apart_ships") rfl), FunD.bindsN F fun _ _ _ _ _ _ us hl => match us, hl with | [_, _, _], _ => rfl⟩
  d_net_cells := by
    obtain ⟨fd, F⟩ := c.t.d.def_ 4 (d := dd_net_cells) rfl
    exact ⟨_, fd, F, He.glo_ok X G (c.t.d.fact 4 (f := .glo "net_cells") rfl), FunD.bindsN F fun _ _ _ _ _ _ us hl => match us, hl with | [_, _, _], _ => rfl⟩
  d_net_of := by
    obtain ⟨fd, F⟩ := c.t.d.def_ 5 (d := dd_net_of) rfl
    exact ⟨_, fd, F, He.glo_ok X G (c.t.d.fact 5 (f := .glo "net_of") rfl), FunD.bindsN F fun _ _ _ _ _ _ us hl => match us, hl with | [_, _, _], _ => rfl⟩
  d_least_net := by
    obtain ⟨fd, F⟩ := c.t.d.def_ 6 (d := dd_least_net) rfl
    exact ⟨_, fd, F, He.glo_ok X G (c.t.d.fact 6 (f := .glo "least_net") rfl), FunD.bindsN F fun _ _ _ _ _ _ us hl => match us, hl with | [_, _, _], _ => rfl⟩
  d_is_net := by
    obtain ⟨fd, F⟩ := c.t.d.def_ 7 (d := dd_is_net) rfl
    exact ⟨_, fd, F, He.glo_ok X G (c.t.d.fact 7 (f := .glo "is_net") rfl), FunD.bindsN F fun _ _ _ _ _ _ us hl => match us, hl with | [_, _, _, _], _ => rfl⟩
  d_lie_apart := by
    obtain ⟨fd, F⟩ := c.t.d.def_ 8 (d := dd_lie_apart) rfl
    exact ⟨_, fd, F, He.glo_ok X G (c.t.d.fact 8 (f := .glo "lie_apart") rfl), FunD.bindsN F fun _ _ _ _ _ _ us hl => match us, hl with | [_], _ => rfl⟩
  d__law_stir := by
    obtain ⟨fd, F⟩ := c.t.d.def_ 9 (d := dd__law_stir) rfl
    exact ⟨_, fd, F, He.glo_ok X G (c.t.d.fact 9 (f := .glo "_law_stir") rfl), FunD.bindsN F fun _ _ _ _ _ _ us hl => match us, hl with | [_, _], _ => rfl⟩
  d__law_drawn := by
    obtain ⟨fd, F⟩ := c.t.d.def_ 10 (d := dd__law_drawn) rfl
    exact ⟨_, fd, F, He.glo_ok X G (c.t.d.fact 10 (f := .glo "_law_drawn") rfl), FunD.bindsN F fun _ _ _ _ _ _ us hl => match us, hl with | [_, _], _ => rfl⟩
  d__law_cells := by
    obtain ⟨fd, F⟩ := c.t.d.def_ 11 (d := dd__law_cells) rfl
    exact ⟨_, fd, F, He.glo_ok X G (c.t.d.fact 11 (f := .glo "_law_cells") rfl), FunD.bindsN F fun _ _ _ _ _ _ us hl => match us, hl with | [_], _ => rfl⟩
  d__law_runs := by
    obtain ⟨fd, F⟩ := c.t.d.def_ 12 (d := dd__law_runs) rfl
    exact ⟨_, fd, F, He.glo_ok X G (c.t.d.fact 12 (f := .glo "_law_runs") rfl), FunD.bindsN F fun _ _ _ _ _ _ us hl => match us, hl with | [_, _, _], _ => rfl⟩
  d__law_is_net := by
    obtain ⟨fd, F⟩ := c.t.d.def_ 13 (d := dd__law_is_net) rfl
    exact ⟨_, fd, F, He.glo_ok X G (c.t.d.fact 13 (f := .glo "_law_is_net") rfl), FunD.bindsN F fun _ _ _ _ _ _ us hl => match us, hl with | [_, _, _, _], _ => rfl⟩
  d__law_apart := by
    obtain ⟨fd, F⟩ := c.t.d.def_ 14 (d := dd__law_apart) rfl
    exact ⟨_, fd, F, He.glo_ok X G (c.t.d.fact 14 (f := .glo "_law_apart") rfl), FunD.bindsN F fun _ _ _ _ _ _ us hl => match us, hl with | [_], _ => rfl⟩
  d__law_sizes := by
    obtain ⟨fd, F⟩ := c.t.d.def_ 15 (d := dd__law_sizes) rfl
    exact ⟨_, fd, F, He.glo_ok X G (c.t.d.fact 15 (f := .glo "_law_sizes") rfl), FunD.bindsN F fun _ _ _ _ _ _ us hl => match us, hl with | [_], _ => rfl⟩
  d__law_ships_right := by
    obtain ⟨fd, F⟩ := c.t.d.def_ 16 (d := dd__law_ships_right) rfl
    exact ⟨_, fd, F, He.glo_ok X G (c.t.d.fact 16 (f := .glo "_law_ships_right") rfl), FunD.bindsN F fun _ _ _ _ _ _ us hl => match us, hl with | [_, _, _, _], _ => rfl⟩
  d_law := by
    obtain ⟨fd, F⟩ := c.t.d.def_ 17 (d := dd_law) rfl
    exact ⟨_, fd, F, He.glo_ok X G (c.t.d.fact 17 (f := .glo "law") rfl), FunD.bindsN F fun _ _ _ _ _ _ us hl => match us, hl with | [_], _ => rfl⟩
  n_any := He.free_ok X G (c.t.d.fact 18 (f := .free "any") rfl)
  n_dict := He.free_ok X G (c.t.d.fact 19 (f := .free "dict") rfl)
  n_int := He.free_ok X G (c.t.d.fact 20 (f := .free "int") rfl)
  n_isinstance := He.free_ok X G (c.t.d.fact 21 (f := .free "isinstance") rfl)
  n_len := He.free_ok X G (c.t.d.fact 22 (f := .free "len") rfl)
  n_list := He.free_ok X G (c.t.d.fact 23 (f := .free "list") rfl)
  n_min := He.free_ok X G (c.t.d.fact 24 (f := .free "min") rfl)
  n_range := He.free_ok X G (c.t.d.fact 25 (f := .free "range") rfl)
  n_sorted := He.free_ok X G (c.t.d.fact 26 (f := .free "sorted") rfl)
  n_tuple := He.free_ok X G (c.t.d.fact 27 (f := .free "tuple") rfl)
def q_net_cells_1 (a1 : PyData) (a2 : PyData) (a3 : PyData) (x141 : PyData) (x299 : PyData) (s298 : OV) : O (OV) :=
  O.bind (O.of (R.bind (R.ok (.sh x141)) fun e337 => R.bind (R.ok (.sh x299)) fun e338 => ofOR (gAdd e337 e338))) fun (v339 : OV) => O.bind (O.bind (O.of (R.bind (R.bind (R.ok (.sh a3)) fun e340 => R.bind (R.ok (.sh a1)) fun e341 => ofOR (gGt e340 e341)) toBR)) fun b349 => if b349 = true then O.bind (O.of (R.bind (R.ok (.sh x299)) fun e346 => R.bind (R.ok (.sh (.int 1))) fun e347 => ofOR (gAdd e346 e347))) fun (v348 : OV) => .next v348 else .next v339) fun (s345 : OV) => O.bind (O.bind (O.of (R.bind (R.bind (R.ok (.sh a3)) fun e350 => R.bind (R.ok (.sh a2)) fun e351 => ofOR (gGt e350 e351)) toBR)) fun b359 => if b359 = true then O.bind (O.of (R.bind (R.ok (.sh x141)) fun e356 => R.bind (R.ok (.sh (.int 1))) fun e357 => ofOR (gAdd e356 e357))) fun (v358 : OV) => .next v358 else .next s345) fun (s355 : OV) => O.bind (O.of (R.bind (R.bind (R.ok (.sh (fz s355))) fun e360 => R.bind (R.ok (.sh a3)) fun e361 => ofOR (gModI e360 e361)) fun k372 => R.bind (subR s298 k372) fun o373 => R.bind (ownR "list" o373) fun _ => R.bind (noX (R.bind (R.bind (R.bind (R.ok (.sh x141)) fun e364 => R.bind (R.bind (R.ok (.sh x299)) fun e362 => R.bind (R.ok []) fun l363 => .ok (e362 :: l363)) fun l365 => .ok (e364 :: l365)) fun l366 => szR l366.length (.sh (.tuple (l366.map fz)))) fun e367 => R.bind (R.ok []) fun l368 => .ok (e367 :: l368))) fun l370 => R.bind (mutR mApp o373 l370) fun r371 => .ok (putO s298 (fz k372) r371.1))) fun (v369 : OV) => .next v369
theorem okq_net_cells_1 {μ : List SO} (a1 : PyData) (a2 : PyData) (a3 : PyData) (x141 : PyData) (x299 : PyData) (s298 : OV) : jS μ b_net_cells_1 [.ex (.sh a1), .ex (.sh a2), .ex (.sh a3), .ex s298, .ex (.sh x141), .ex (.sh x299), .no, .no] (q_net_cells_1 a1 a2 a3 x141 x299 s298) (fun (s298 : OV) => [.ex (.sh a1), .ex (.sh a2), .ex (.sh a3), .ex s298, .ex (.sh x141), .no, .no, .no]) := by
  unfold q_net_cells_1 b_net_cells_1
  exact (js_seq (st1 := fun (v339 : OV) => [.ex (.sh a1), .ex (.sh a2), .ex (.sh a3), .ex s298, .ex (.sh x141), .ex (.sh x299), .ex v339, .no]) (js_set (j_bin (j_v rfl) (j_v rfl))) fun v339 => (js_seq (st1 := fun (s345 : OV) => [.ex (.sh a1), .ex (.sh a2), .ex (.sh a3), .ex s298, .ex (.sh x141), .ex (.sh x299), .ex s345, .no]) (js_if (j_test (j_bin (j_v rfl) (j_v rfl))) (js_seq (st1 := fun (v348 : OV) => [.ex (.sh a1), .ex (.sh a2), .ex (.sh a3), .ex s298, .ex (.sh x141), .ex (.sh x299), .ex v348, .no]) (js_set (j_bin (j_v rfl) j_c)) fun v348 => (js_nil .rf)) (js_nil .rf)) fun s345 => (js_seq (st1 := fun (s355 : OV) => [.ex (.sh a1), .ex (.sh a2), .ex (.sh a3), .ex s298, .ex (.sh x141), .ex (.sh x299), .ex s355, .no]) (js_if (j_test (j_bin (j_v rfl) (j_v rfl))) (js_seq (st1 := fun (v358 : OV) => [.ex (.sh a1), .ex (.sh a2), .ex (.sh a3), .ex s298, .ex (.sh x141), .ex (.sh x299), .ex v358, .no]) (js_set (j_bin (j_v rfl) j_c)) fun v358 => (js_nil .rf)) (js_nil .rf)) fun s355 => (js_seq (st1 := fun (v369 : OV) => [.ex (.sh a1), .ex (.sh a2), .ex (.sh a3), .ex v369, .ex (.sh x141), .ex (.sh x299), .ex (.sh (fz s355)), .no]) (js_mutS rfl rfl (j_bin (j_vx rfl) (j_v rfl)) rfl (j_lcons (j_tup (j_lcons (j_v rfl) (j_lcons (j_v rfl) j_lnil))) j_lnil) rfl) fun v369 => (js_nil (by exact (.eq (.eq (.eq (.eq (.eq (.no (.no (.eq .nil))))))))))))))
def q_net_cells_2 (a1 : PyData) (a2 : PyData) (a3 : PyData) (x141 : PyData) (s140 : OV) : O (OV) :=
  O.bind (O.bind (O.of (R.bind (R.ok (.sh a2)) rng1R)) fun z374 => forO z374 (fun x299 s298 => q_net_cells_1 a1 a2 a3 x141 x299 s298) s140) fun (s375 : OV) => .next s375
theorem okq_net_cells_2 {μ : List SO} (a1 : PyData) (a2 : PyData) (a3 : PyData) (x141 : PyData) (s140 : OV) : jS μ b_net_cells_2 [.ex (.sh a1), .ex (.sh a2), .ex (.sh a3), .ex s140, .ex (.sh x141), .no, .no, .no] (q_net_cells_2 a1 a2 a3 x141 s140) (fun (s140 : OV) => [.ex (.sh a1), .ex (.sh a2), .ex (.sh a3), .ex s140, .no, .no, .no, .no]) := by
  unfold q_net_cells_2 b_net_cells_2
  exact (js_seq (st1 := fun (s375 : OV) => [.ex (.sh a1), .ex (.sh a2), .ex (.sh a3), .ex s375, .ex (.sh x141), .no, .no, .no]) (js_forN (st := fun (s298 : OV) => [.ex (.sh a1), .ex (.sh a2), .ex (.sh a3), .ex s298, .ex (.sh x141), .no, .no, .no]) (j_irange1 (j_v rfl)) .rf (fun x299 s298 => okq_net_cells_1 a1 a2 a3 x141 x299 s298) (fun _ => rfl)) fun s375 => (js_nil (by exact (.eq (.eq (.eq (.eq (.no (.eq (.eq (.eq .nil)))))))))))
def q_net_cells_0 (a1 : PyData) (a2 : PyData) (a3 : PyData) : O Unit :=
  O.bind (O.bind (O.of (R.bind (R.bind (R.bind (R.ok (.sh a3)) fun e4 => R.bind (R.ok (.sh a1)) fun e5 => ofOR (gGt e4 e5)) toBR) fun b8 => if b8 = true then (R.bind (R.bind (R.ok (.sh a3)) fun e6 => R.bind (R.ok (.sh a2)) fun e7 => ofOR (gGt e6 e7)) toBR) else .ok false)) fun b14 => if b14 = true then O.bind (O.of (R.bind (R.ok []) fun l12 => szR l12.length (.lst l12))) fun o13 => .ret o13 else .next ()) fun s11 => O.bind (O.of (R.bind (R.bind (R.ok (.sh a3)) rng1R) fun z18 => R.bind (lcR (fun x15 => R.bind (R.bind (R.ok []) fun l16 => szR l16.length (.lst l16)) fun o17 => .ok (some o17)) z18) fun l19 => szR l19.length (.lst l19))) fun (v20 : OV) => O.bind (O.bind (O.of (R.bind (R.ok (.sh a1)) rng1R)) fun z376 => forO z376 (fun x141 s140 => q_net_cells_2 a1 a2 a3 x141 s140) v20) fun (s377 : OV) => O.bind (O.bind (O.of (R.bind (R.bind (R.bind (R.ok (.sh a3)) fun e378 => R.bind (R.ok (.sh a1)) fun e379 => ofOR (gGt e378 e379)) toBR) fun b382 => if b382 = true then .ok true else (R.bind (R.bind (R.ok (.sh a3)) fun e380 => R.bind (R.ok (.sh a2)) fun e381 => ofOR (gGt e380 e381)) toBR))) fun b386 => if b386 = true then O.bind (O.of (tkIR s377 0)) fun o385 => .ret o385 else .next ()) fun s384 => O.bind (O.of (tkMR s377)) fun o387 => .ret o387
theorem okq_net_cells_0 {μ : List SO} (a1 : PyData) (a2 : PyData) (a3 : PyData) : jS μ b_net_cells [.ex (.sh a1), .ex (.sh a2), .ex (.sh a3), .un, .un, .un, .un, .un] (q_net_cells_0 a1 a2 a3) (fun _ : Unit => [.no, .no, .no, .no, .no, .no, .no, .no]) := by
  unfold q_net_cells_0 b_net_cells
  exact (js_seq (st1 := fun (s11 : Unit) => [.ex (.sh a1), .ex (.sh a2), .ex (.sh a3), .no, .no, .no, .no, .no]) (js_if (j_band (j_test (j_bin (j_v rfl) (j_v rfl))) (j_test (j_bin (j_v rfl) (j_v rfl))) .rf) (js_retc (j_lst j_lnil)) (js_nil (by exact (.eq (.eq (.eq (.no (.no (.no (.no (.no .nil))))))))))) fun s11 => (js_seq (st1 := fun (v20 : OV) => [.ex (.sh a1), .ex (.sh a2), .ex (.sh a3), .ex v20, .no, .no, .no, .no]) (js_set (j_lc (pc := [.ex (.sh a1), .ex (.sh a2), .ex (.sh a3), .no, .no, .no, .no, .no]) (j_irange1 (j_v rfl)) .rf fun x15 => (j_turn1N (j_lst j_lnil) .rf))) fun v20 => (js_seq (st1 := fun (s377 : OV) => [.ex (.sh a1), .ex (.sh a2), .ex (.sh a3), .ex s377, .no, .no, .no, .no]) (js_forN (st := fun (s140 : OV) => [.ex (.sh a1), .ex (.sh a2), .ex (.sh a3), .ex s140, .no, .no, .no, .no]) (j_irange1 (j_v rfl)) .rf (fun x141 s140 => okq_net_cells_2 a1 a2 a3 x141 s140) (fun _ => rfl)) fun s377 => (js_seq (st1 := fun (s384 : Unit) => [.no, .no, .no, .ex s377, .no, .no, .no, .no]) (js_if (j_bor (j_test (j_bin (j_v rfl) (j_v rfl))) (j_test (j_bin (j_v rfl) (j_v rfl))) .rf) (js_retc (j_tkI rfl)) (js_nil (by exact (.no (.no (.no (.eq (.eq (.eq (.eq (.eq .nil))))))))))) fun s384 => (js_retc (j_tkM rfl))))))
def q_net_cells : List PyData → R OV
  | [a1, a2, a3] => O.fin (q_net_cells_0 a1 a2 a3)
  | _ => .stk
theorem okq_net_cells : jP m_net_cells q_net_cells := fun ds μ => match ds with
  | [a1, a2, a3] => j_def (qq := q_net_cells_0 a1 a2 a3) (okq_net_cells_0 a1 a2 a3)
  | [] => trivial
  | [_] => trivial
  | [_, _] => trivial
  | _ :: _ :: _ :: _ :: _ => trivial
def q_net_of_0 (a1 : PyData) (a2 : PyData) (a3 : PyData) : O Unit :=
  O.bind (O.of (R.bind (R.bind (R.bind (R.bind (R.ok (.sh a1)) fun e8 => R.bind (R.bind (R.ok (.sh a2)) fun e6 => R.bind (R.bind (R.ok (.sh a3)) fun e4 => R.bind (R.ok []) fun l5 => .ok (e4 :: l5)) fun l7 => .ok (e6 :: l7)) fun l9 => .ok (e8 :: l9)) fun l10 => q_net_cells (l10.map fz)) fun e23 => R.bind (R.bind (R.bind (R.bind (R.bind (R.bind (R.ok (.sh a1)) fun e15 => R.bind (R.bind (R.ok (.sh a2)) fun e13 => R.bind (R.bind (R.ok (.sh a3)) fun e11 => R.bind (R.ok []) fun l12 => .ok (e11 :: l12)) fun l14 => .ok (e13 :: l14)) fun l16 => .ok (e15 :: l16)) fun l17 => q_apart_ships (l17.map fz)) fun e18 => R.bind (R.ok []) fun l19 => .ok (e18 :: l19)) fun l20 => ofOR ((g1 dSorted) l20)) fun e21 => R.bind (R.ok []) fun l22 => .ok (e21 :: l22)) fun l24 => .ok (e23 :: l24)) fun l25 => szR l25.length (.tup l25))) fun o26 => .ret o26
theorem okq_net_of_0 {μ : List SO} (a1 : PyData) (a2 : PyData) (a3 : PyData) : jS μ b_net_of [.ex (.sh a1), .ex (.sh a2), .ex (.sh a3)] (q_net_of_0 a1 a2 a3) (fun _ : Unit => [.no, .no, .no]) := by
  unfold q_net_of_0 b_net_of
  exact (js_retc (j_tupO (j_lcons (j_call okq_net_cells (j_lcons (j_v rfl) (j_lcons (j_v rfl) (j_lcons (j_v rfl) j_lnil)))) (j_lcons (j_fn (j_lcons (j_call okq_apart_ships (j_lcons (j_v rfl) (j_lcons (j_v rfl) (j_lcons (j_v rfl) j_lnil)))) j_lnil)) j_lnil))))
def q_net_of : List PyData → R OV
  | [a1, a2, a3] => O.fin (q_net_of_0 a1 a2 a3)
  | _ => .stk
theorem okq_net_of : jP m_net_of q_net_of := fun ds μ => match ds with
  | [a1, a2, a3] => j_def (qq := q_net_of_0 a1 a2 a3) (okq_net_of_0 a1 a2 a3)
  | [] => trivial
  | [_] => trivial
  | [_, _] => trivial
  | _ :: _ :: _ :: _ :: _ => trivial
def q_least_net_0 (a1 : PyData) (a2 : PyData) (a3 : PyData) : O Unit :=
  O.bind (O.of (R.bind (R.bind (R.bind (R.bind (R.ok (.sh a1)) fun e8 => R.bind (R.bind (R.ok (.sh a2)) fun e6 => R.bind (R.bind (R.ok (.sh a3)) fun e4 => R.bind (R.ok []) fun l5 => .ok (e4 :: l5)) fun l7 => .ok (e6 :: l7)) fun l9 => .ok (e8 :: l9)) fun l10 => q_net_cells (l10.map fz)) fun e11 => R.bind (R.ok []) fun l12 => .ok (e11 :: l12)) fun l13 => ofOR ((g1 dLen) l13))) fun o14 => .ret o14
theorem okq_least_net_0 {μ : List SO} (a1 : PyData) (a2 : PyData) (a3 : PyData) : jS μ b_least_net [.ex (.sh a1), .ex (.sh a2), .ex (.sh a3)] (q_least_net_0 a1 a2 a3) (fun _ : Unit => [.no, .no, .no]) := by
  unfold q_least_net_0 b_least_net
  exact (js_retc (j_fn (j_lcons (j_call okq_net_cells (j_lcons (j_v rfl) (j_lcons (j_v rfl) (j_lcons (j_v rfl) j_lnil)))) j_lnil)))
def q_least_net : List PyData → R OV
  | [a1, a2, a3] => O.fin (q_least_net_0 a1 a2 a3)
  | _ => .stk
theorem okq_least_net : jP m_least_net q_least_net := fun ds μ => match ds with
  | [a1, a2, a3] => j_def (qq := q_least_net_0 a1 a2 a3) (okq_least_net_0 a1 a2 a3)
  | [] => trivial
  | [_] => trivial
  | [_, _] => trivial
  | _ :: _ :: _ :: _ :: _ => trivial
def q__law_ships_right_1 (a1 : PyData) (a2 : PyData) (t130 : List PyData) (x129 : PyData) (s128 : Unit) : O (Unit) :=
  O.bind (O.bind (O.of (R.bind (R.bind (R.bind (R.ok (.sh (nd t130 0))) fun e146 => R.bind (R.ok (.sh (.int 0))) fun e147 => ofOR (gLt e146 e147)) toBR) fun b156 => if b156 = true then .ok true else (R.bind (R.bind (R.bind (R.ok (.sh (nd t130 0))) fun e148 => R.bind (R.ok (.sh a1)) fun e149 => ofOR (gGe e148 e149)) toBR) fun b155 => if b155 = true then .ok true else (R.bind (R.bind (R.bind (R.ok (.sh (nd t130 1))) fun e150 => R.bind (R.ok (.sh (.int 0))) fun e151 => ofOR (gLt e150 e151)) toBR) fun b154 => if b154 = true then .ok true else (R.bind (R.bind (R.ok (.sh (nd t130 1))) fun e152 => R.bind (R.ok (.sh a2)) fun e153 => ofOR (gGe e152 e153)) toBR))))) fun b160 => if b160 = true then O.bind (O.of (R.ok (.sh (.bool false)))) fun o159 => .ret o159 else .next ()) fun s158 => .next ()
theorem okq__law_ships_right_1 {μ : List SO} (a1 : PyData) (a2 : PyData) (a3 : PyData) (a4 : PyData) (t130 : List PyData) (x129 : PyData) (s128 : Unit) : jS μ b__law_ships_right_1 [.ex (.sh a1), .ex (.sh a2), .ex (.sh a3), .ex (.sh a4), .no, .ex (.sh (nd t130 0)), .ex (.sh (nd t130 1))] (q__law_ships_right_1 a1 a2 t130 x129 s128) (fun (s128 : Unit) => [.ex (.sh a1), .ex (.sh a2), .ex (.sh a3), .ex (.sh a4), .no, .no, .no]) := by
  unfold q__law_ships_right_1 b__law_ships_right_1
  exact (js_seq (st1 := fun (s158 : Unit) => [.ex (.sh a1), .ex (.sh a2), .ex (.sh a3), .ex (.sh a4), .no, .no, .no]) (js_if (j_bor (j_test (j_bin (j_v rfl) j_c)) (j_bor (j_test (j_bin (j_v rfl) (j_v rfl))) (j_bor (j_test (j_bin (j_v rfl) j_c)) (j_test (j_bin (j_v rfl) (j_v rfl))) .rf) .rf) .rf) (js_retc j_c) (js_nil (by exact (.eq (.eq (.eq (.eq (.eq (.no (.no .nil)))))))))) fun s158 => (js_nil .rf))
def q__law_ships_right_2 (a1 : PyData) (a2 : PyData) (a3 : PyData) (x6 : PyData) (s5 : Unit) : O (Unit) :=
  O.bind (O.bind (O.of (R.bind (R.bind (R.bind (R.bind (R.bind (R.ok (.sh x6)) fun e85 => R.bind (R.ok []) fun l86 => .ok (e85 :: l86)) fun l87 => ofOR (gIsi "tuple" l87)) toBR) fun b88 => .ok (!b88)) fun b109 => if b109 = true then .ok true else (R.bind (R.bind (R.bind (R.bind (R.bind (R.ok (.sh x6)) fun e89 => R.bind (R.ok []) fun l90 => .ok (e89 :: l90)) fun l91 => ofOR ((g1 dLen) l91)) fun e92 => R.bind (R.ok (.sh (.int 4))) fun e93 => ofOR (gEq true e92 e93)) toBR) fun b108 => if b108 = true then .ok true else (R.bind (R.bind (R.bind (R.bind (R.ok (.sh x6)) fun e94 => R.bind (R.ok (.sh (.int 3))) fun e95 => ofOR (gSub e94 e95)) fun e96 => R.bind (R.ok (.sh a3)) fun e97 => ofOR (gEq true e96 e97)) toBR) fun b107 => if b107 = true then .ok true else (R.bind (R.bind (R.bind (R.ok (.sh x6)) fun e98 => R.bind (R.ok (.sh (.int 2))) fun e99 => ofOR (gSub e98 e99)) fun e105 => R.bind (R.bind (R.bind (R.ok (.sh (.str "along"))) fun e102 => R.bind (R.bind (R.ok (.sh (.str "down"))) fun e100 => R.bind (R.ok []) fun l101 => .ok (e100 :: l101)) fun l103 => .ok (e102 :: l103)) fun l104 => szR l104.length (.sh (.tuple (l104.map fz)))) fun e106 => ofOR (gIn true e105 e106)) toBR))))) fun b113 => if b113 = true then O.bind (O.of (R.ok (.sh (.bool false)))) fun o112 => .ret o112 else .next ()) fun s111 => O.bind (O.bind (O.of (R.bind (R.bind (R.bind (R.ok (.sh a3)) fun e114 => R.bind (R.ok (.sh (.int 1))) fun e115 => ofOR (gEq false e114 e115)) toBR) fun b120 => if b120 = true then (R.bind (R.bind (R.bind (R.ok (.sh x6)) fun e116 => R.bind (R.ok (.sh (.int 2))) fun e117 => ofOR (gSub e116 e117)) fun e118 => R.bind (R.ok (.sh (.str "down"))) fun e119 => ofOR (gEq false e118 e119)) toBR) else .ok false)) fun b124 => if b124 = true then O.bind (O.of (R.ok (.sh (.bool false)))) fun o123 => .ret o123 else .next ()) fun s122 => O.bind (O.bind (O.of (R.bind (R.bind (R.bind (R.ok (.sh x6)) fun e125 => R.bind (R.ok []) fun l126 => .ok (e125 :: l126)) fun l127 => q__law_cells (l127.map fz)) itR)) fun z161 => forO z161 (fun x129 s128 => O.bind (O.of (unT 2 (fz (.sh x129)))) fun t130 => q__law_ships_right_1 a1 a2 t130 x129 s128) ()) fun s162 => .next ()
theorem okq__law_ships_right_2 {μ : List SO} (a1 : PyData) (a2 : PyData) (a3 : PyData) (a4 : PyData) (x6 : PyData) (s5 : Unit) : jS μ b__law_ships_right_2 [.ex (.sh a1), .ex (.sh a2), .ex (.sh a3), .ex (.sh a4), .ex (.sh x6), .no, .no] (q__law_ships_right_2 a1 a2 a3 x6 s5) (fun (s5 : Unit) => [.ex (.sh a1), .ex (.sh a2), .ex (.sh a3), .ex (.sh a4), .no, .no, .no]) := by
  unfold q__law_ships_right_2 b__law_ships_right_2
  exact (js_seq (st1 := fun (s111 : Unit) => [.ex (.sh a1), .ex (.sh a2), .ex (.sh a3), .ex (.sh a4), .ex (.sh x6), .no, .no]) (js_if (j_bor (j_not (j_test (j_fn (j_lcons (j_v rfl) j_lnil)))) (j_bor (j_test (j_bin (j_fn (j_lcons (j_v rfl) j_lnil)) j_c)) (j_bor (j_test (j_bin (j_bin (j_v rfl) j_c) (j_v rfl))) (j_test (j_bin (j_bin (j_v rfl) j_c) (j_tup (j_lcons j_c (j_lcons j_c j_lnil))))) .rf) .rf) .rf) (js_retc j_c) (js_nil .rf)) fun s111 => (js_seq (st1 := fun (s122 : Unit) => [.ex (.sh a1), .ex (.sh a2), .ex (.sh a3), .ex (.sh a4), .ex (.sh x6), .no, .no]) (js_if (j_band (j_test (j_bin (j_v rfl) j_c)) (j_test (j_bin (j_bin (j_v rfl) j_c) j_c)) .rf) (js_retc j_c) (js_nil .rf)) fun s122 => (js_seq (st1 := fun (s162 : Unit) => [.ex (.sh a1), .ex (.sh a2), .ex (.sh a3), .ex (.sh a4), .no, .no, .no]) (js_for (st := fun (s128 : Unit) => [.ex (.sh a1), .ex (.sh a2), .ex (.sh a3), .ex (.sh a4), .no, .no, .no]) (pt := fun x129 s128 t130 => [.ex (.sh a1), .ex (.sh a2), .ex (.sh a3), .ex (.sh a4), .no, .ex (.sh (nd t130 0)), .ex (.sh (nd t130 1))]) (j_ival (j_call okq__law_cells (j_lcons (j_v rfl) j_lnil))) (by exact (.eq (.eq (.eq (.eq (.no (.eq (.eq .nil)))))))) (fun x129 s128 => (jt_tup fun t130 => (jts_cons (by decide) (jts_cons (by decide) jts_nil)))) (fun x129 s128 t130 => okq__law_ships_right_1 a1 a2 a3 a4 t130 x129 s128) (fun _ => rfl)) fun s162 => (js_nil .rf))))
def q__law_ships_right_0 (a1 : PyData) (a2 : PyData) (a3 : PyData) (a4 : PyData) : O Unit :=
  O.bind (O.bind (O.of (R.bind (R.ok (.sh a4)) itR)) fun z163 => forO z163 (fun x6 s5 => q__law_ships_right_2 a1 a2 a3 x6 s5) ()) fun s164 => O.bind (O.of (R.bind (R.bind (R.ok (.sh a4)) fun e168 => R.bind (R.bind (R.bind (R.ok (.sh a4)) fun e165 => R.bind (R.ok []) fun l166 => .ok (e165 :: l166)) fun l167 => ofOR ((g1 dSorted) l167)) fun e169 => ofOR (gEq false e168 e169)) fun e173 => andR e173 (R.bind (R.bind (R.ok (.sh a4)) fun e170 => R.bind (R.ok []) fun l171 => .ok (e170 :: l171)) fun l172 => q__law_apart (l172.map fz)))) fun o174 => .ret o174
theorem okq__law_ships_right_0 {μ : List SO} (a1 : PyData) (a2 : PyData) (a3 : PyData) (a4 : PyData) : jS μ b__law_ships_right [.ex (.sh a1), .ex (.sh a2), .ex (.sh a3), .ex (.sh a4), .un, .un, .un] (q__law_ships_right_0 a1 a2 a3 a4) (fun _ : Unit => [.no, .no, .no, .no, .no, .no, .no]) := by
  unfold q__law_ships_right_0 b__law_ships_right
  exact (js_seq (st1 := fun (s164 : Unit) => [.ex (.sh a1), .ex (.sh a2), .ex (.sh a3), .ex (.sh a4), .no, .no, .no]) (js_forN (st := fun (s5 : Unit) => [.ex (.sh a1), .ex (.sh a2), .ex (.sh a3), .ex (.sh a4), .no, .no, .no]) (j_ival (j_v rfl)) .rf (fun x6 s5 => okq__law_ships_right_2 a1 a2 a3 a4 x6 s5) (fun _ => rfl)) fun s164 => (js_retc (j_and (j_bin (j_v rfl) (j_fn (j_lcons (j_v rfl) j_lnil))) (j_call okq__law_apart (j_lcons (j_v rfl) j_lnil)) .rf)))
def q__law_ships_right : List PyData → R OV
  | [a1, a2, a3, a4] => O.fin (q__law_ships_right_0 a1 a2 a3 a4)
  | _ => .stk
theorem okq__law_ships_right : jP m__law_ships_right q__law_ships_right := fun ds μ => match ds with
  | [a1, a2, a3, a4] => j_def (qq := q__law_ships_right_0 a1 a2 a3 a4) (okq__law_ships_right_0 a1 a2 a3 a4)
  | [] => trivial
  | [_] => trivial
  | [_, _] => trivial
  | [_, _, _] => trivial
  | _ :: _ :: _ :: _ :: _ :: _ => trivial
def q_law_1 (m2 : List SO) (x14 : PyData) (s13 : Unit) : O (Unit) :=
  O.bind (O.of (R.bind (R.bind (R.bind (R.ok (.sh x14)) fun e159 => R.bind (R.ok []) fun l160 => .ok (e159 :: l160)) fun l161 => q__law_sizes (l161.map fz)) fun o163 => unT 3 (fz o163))) fun t162 => O.bind (O.of (R.bind (R.bind (R.ok (.sh (nd t162 0))) fun e168 => R.bind (R.bind (R.ok (.sh (nd t162 1))) fun e166 => R.bind (R.bind (R.ok (.sh (nd t162 2))) fun e164 => R.bind (R.ok []) fun l165 => .ok (e164 :: l165)) fun l167 => .ok (e166 :: l167)) fun l169 => .ok (e168 :: l169)) fun l170 => q_net_of (l170.map fz))) fun (v171 : OV) => O.bind (O.bind (O.of (R.bind (R.bind (thawR m2 v171 (R.bind (R.bind (R.bind (R.ok (.sh (fz v171))) fun e172 => R.bind (R.ok []) fun l173 => .ok (e172 :: l173)) fun l174 => ofOR (gIsi "tuple" l174)) toBR)) fun b175 => .ok (!b175)) fun b188 => if b188 = true then .ok true else (thawR m2 v171 (R.bind (R.bind (R.bind (R.bind (R.ok (.sh (fz v171))) itR) fun z183 => R.bind (lcR (fun x176 => R.bind (R.bind (R.bind (R.bind (R.bind (R.ok (.sh x176)) fun e177 => R.bind (R.ok []) fun l178 => .ok (e177 :: l178)) fun l179 => ofOR (gIsi "list" l179)) toBR) fun b180 => .ok (!b180)) fun b182 => if b182 = true then R.bind (R.ok (.sh x176)) fun o181 => .ok (some o181) else .ok none) z183) fun l184 => szR l184.length (.lst l184)) fun e186 => R.bind (R.bind (R.ok []) fun l185 => szR l185.length (.lst l185)) fun e187 => ofOR (gEq true e186 e187)) toBR)))) fun b192 => if b192 = true then O.bind (O.of (R.ok (.sh (.bool false)))) fun o191 => .ret o191 else .next ()) fun s190 => O.bind (O.bind (O.of (untR v171)) fun ab193 => O.bind (O.bind (O.of (R.bind (R.bind (R.bind (ofPR (dLenP (fz ab193.1))) fun e194 => R.bind (ofPR (dLenP (fz ab193.2))) fun e195 => ofOR (gEq true e194 e195)) toBR) fun b201 => if b201 = true then .ok true else (thawR m2 ab193.1 (R.bind (R.bind (R.ok (.sh (fz ab193.1))) fun e199 => R.bind (R.bind (R.bind (R.ok (.sh (fz ab193.1))) fun e196 => R.bind (R.ok []) fun l197 => .ok (e196 :: l197)) fun l198 => ofOR ((g1 dSorted) l198)) fun e200 => ofOR (gEq true e199 e200)) toBR)))) fun b203 => if b203 = true then O.bind (O.of (R.ok (.sh (.bool false)))) fun o202 => .ret o202 else .next ()) fun _ => .next ab193) fun ab193 => O.bind (O.bind (O.of (R.bind (R.bind (thawR m2 ab193.1 (R.bind (R.bind (R.bind (R.ok (.sh (nd t162 0))) fun e210 => R.bind (R.bind (R.ok (.sh (nd t162 1))) fun e208 => R.bind (R.bind (R.ok (.sh (nd t162 2))) fun e206 => R.bind (R.bind (R.ok (.sh (fz ab193.1))) fun e204 => R.bind (R.ok []) fun l205 => .ok (e204 :: l205)) fun l207 => .ok (e206 :: l207)) fun l209 => .ok (e208 :: l209)) fun l211 => .ok (e210 :: l211)) fun l212 => q__law_is_net (l212.map fz)) toBR)) fun b213 => .ok (!b213)) fun b224 => if b224 = true then .ok true else (R.bind (thawR m2 ab193.2 (R.bind (R.bind (R.bind (R.ok (.sh (nd t162 0))) fun e220 => R.bind (R.bind (R.ok (.sh (nd t162 1))) fun e218 => R.bind (R.bind (R.ok (.sh (nd t162 2))) fun e216 => R.bind (R.bind (R.ok (.sh (fz ab193.2))) fun e214 => R.bind (R.ok []) fun l215 => .ok (e214 :: l215)) fun l217 => .ok (e216 :: l217)) fun l219 => .ok (e218 :: l219)) fun l221 => .ok (e220 :: l221)) fun l222 => q__law_ships_right (l222.map fz)) toBR)) fun b223 => .ok (!b223)))) fun b228 => if b228 = true then O.bind (O.of (R.ok (.sh (.bool false)))) fun o227 => .ret o227 else .next ()) fun s226 => O.bind (O.bind (O.of (R.bind (thawR m2 ab193.1 (R.bind (R.bind (R.bind (R.bind (R.ok (.sh (nd t162 0))) fun e238 => R.bind (R.bind (R.ok (.sh (nd t162 1))) fun e236 => R.bind (R.bind (R.ok (.sh (nd t162 2))) fun e234 => R.bind (R.bind (R.bind (R.bind (R.ok (.sh (fz ab193.1))) fun e229 => R.bind (R.ok []) fun l230 => .ok (e229 :: l230)) fun l231 => ofOR ((g1 dList) l231)) fun e232 => R.bind (R.ok []) fun l233 => .ok (e232 :: l233)) fun l235 => .ok (e234 :: l235)) fun l237 => .ok (e236 :: l237)) fun l239 => .ok (e238 :: l239)) fun l240 => q_is_net (l240.map fz)) fun e241 => R.bind (R.ok (.sh (.bool true))) fun e242 => ofOR (gIsB true e241 e242)) toBR)) fun b251 => if b251 = true then .ok true else (thawR m2 ab193.2 (R.bind (R.bind (R.bind (R.bind (R.bind (R.bind (R.ok (.sh (fz ab193.2))) fun e243 => R.bind (R.ok []) fun l244 => .ok (e243 :: l244)) fun l245 => ofOR ((g1 dList) l245)) fun e246 => R.bind (R.ok []) fun l247 => .ok (e246 :: l247)) fun l248 => q_lie_apart (l248.map fz)) fun e249 => R.bind (R.ok (.sh (.bool true))) fun e250 => ofOR (gIsB true e249 e250)) toBR)))) fun b255 => if b255 = true then O.bind (O.of (R.ok (.sh (.bool false)))) fun o254 => .ret o254 else .next ()) fun s253 => O.bind (O.bind (O.of (R.bind (R.bind (R.bind (R.bind (R.ok (.sh (nd t162 0))) fun e260 => R.bind (R.bind (R.ok (.sh (nd t162 1))) fun e258 => R.bind (R.bind (R.ok (.sh (nd t162 2))) fun e256 => R.bind (R.ok []) fun l257 => .ok (e256 :: l257)) fun l259 => .ok (e258 :: l259)) fun l261 => .ok (e260 :: l261)) fun l262 => q_least_net (l262.map fz)) fun e263 => R.bind (ofPR (dLenP (fz ab193.1))) fun e264 => ofOR (gEq true e263 e264)) toBR)) fun b268 => if b268 = true then O.bind (O.of (R.ok (.sh (.bool false)))) fun o267 => .ret o267 else .next ()) fun s266 => O.bind (O.of (R.bind (R.bind (cpBR ab193.1) fun e271 => R.bind (R.bind (cpBR ab193.2) fun e269 => R.bind (R.ok []) fun l270 => .ok (e269 :: l270)) fun l272 => .ok (e271 :: l272)) fun l273 => szR l273.length (.sh (.tuple (l273.map fz))))) fun (v274 : OV) => O.bind (O.of (R.bind (ownR "list" ab193.1) fun _ => R.bind (R.bind (R.bind (R.bind (R.ok (.sh (.int 0))) fun e277 => R.bind (R.bind (R.ok (.sh (.int 0))) fun e275 => R.bind (R.ok []) fun l276 => .ok (e275 :: l276)) fun l278 => .ok (e277 :: l278)) fun l279 => szR l279.length (.sh (.tuple (l279.map fz)))) fun e280 => R.bind (R.ok []) fun l281 => .ok (e280 :: l281)) fun l283 => R.bind (mutR mApp ab193.1 l283) fun r284 => .ok r284.1)) fun (v282 : OV) => O.bind (O.of (R.bind (ownR "list" ab193.2) fun _ => R.bind (R.bind (R.ok (.sh .none)) fun e285 => R.bind (R.ok []) fun l286 => .ok (e285 :: l286)) fun l288 => R.bind (mutR mApp ab193.2 l288) fun r289 => .ok r289.1)) fun (v287 : OV) => O.bind (O.bind (O.of (R.bind (R.bind (R.bind (R.bind (R.ok (.sh (nd t162 0))) fun e294 => R.bind (R.bind (R.ok (.sh (nd t162 1))) fun e292 => R.bind (R.bind (R.ok (.sh (nd t162 2))) fun e290 => R.bind (R.ok []) fun l291 => .ok (e290 :: l291)) fun l293 => .ok (e292 :: l293)) fun l295 => .ok (e294 :: l295)) fun l296 => q_net_of (l296.map fz)) fun e297 => R.bind (R.ok (.sh (fz v274))) fun e298 => ofOR (gEq true e297 e298)) toBR)) fun b302 => if b302 = true then O.bind (O.of (R.ok (.sh (.bool false)))) fun o301 => .ret o301 else .next ()) fun s300 => .next ()
theorem okq_law_1 (m2 : List SO) (x14 : PyData) (s13 : Unit) : jS m2 b_law_1 [.no, .ex (.sh x14), .no, .no, .no, .no, .no, .no, .no, .no] (q_law_1 m2 x14 s13) (fun (s13 : Unit) => [.no, .no, .no, .no, .no, .no, .no, .no, .no, .no]) := by
  unfold q_law_1 b_law_1
  exact (js_seq (st1 := fun (t162 : List PyData) => [.no, .ex (.sh x14), .ex (.sh (nd t162 0)), .ex (.sh (nd t162 1)), .ex (.sh (nd t162 2)), .no, .no, .no, .no, .no]) (js_asg (pt := fun _ _ => []) (pt' := fun t162 => [.no, .ex (.sh x14), .ex (.sh (nd t162 0)), .ex (.sh (nd t162 1)), .ex (.sh (nd t162 2)), .no, .no, .no, .no, .no]) (j_call okq__law_sizes (j_lcons (j_v rfl) j_lnil)) fun _ => (jt_tup fun t162 => (jts_cons (by decide) (jts_cons (by decide) (jts_cons (by decide) jts_nil))))) fun t162 => (js_seq (st1 := fun (v171 : OV) => [.no, .ex (.sh x14), .ex (.sh (nd t162 0)), .ex (.sh (nd t162 1)), .ex (.sh (nd t162 2)), .ex v171, .no, .no, .no, .no]) (js_set (j_call okq_net_of (j_lcons (j_v rfl) (j_lcons (j_v rfl) (j_lcons (j_v rfl) j_lnil))))) fun v171 => (js_seq (st1 := fun (s190 : Unit) => [.no, .no, .ex (.sh (nd t162 0)), .ex (.sh (nd t162 1)), .ex (.sh (nd t162 2)), .ex v171, .no, .no, .no, .no]) (js_if (j_bor (j_not (j_thaw rfl (by exact (.eq (.eq (.eq (.eq (.eq (.no (.eq (.eq (.eq (.eq .nil))))))))))) rfl (j_test (j_fn (j_lcons (j_v rfl) j_lnil))))) (j_thaw rfl (by exact (.eq (.eq (.eq (.eq (.eq (.no (.eq (.eq (.eq (.eq .nil))))))))))) rfl (j_test (j_bin (j_lc (pc := [.no, .ex (.sh x14), .ex (.sh (nd t162 0)), .ex (.sh (nd t162 1)), .ex (.sh (nd t162 2)), .ex (.sh (fz v171)), .no, .no, .no, .no]) (j_ival (j_v rfl)) .rf fun x176 => (j_turnN (j_not (j_test (j_fn (j_lcons (j_v rfl) j_lnil)))) (j_v rfl) .rf .rf)) (j_lst j_lnil)))) .rf) (js_retc j_c) (js_nil (by exact (.eq (.no (.eq (.eq (.eq (.eq (.eq (.eq (.eq (.eq .nil))))))))))))) fun s190 => (js_seq (st1 := fun (ab193 : OV × OV) => [.no, .no, .ex (.sh (nd t162 0)), .ex (.sh (nd t162 1)), .ex (.sh (nd t162 2)), .un, .ex ab193.1, .ex ab193.2, .no, .no]) (js_unp (st := fun ab193 => [.no, .no, .ex (.sh (nd t162 0)), .ex (.sh (nd t162 1)), .ex (.sh (nd t162 2)), .un, .ex ab193.1, .ex ab193.2, .no, .no]) rfl fun ab193 => (js_if (j_bor (j_test (j_bin (j_b1 rfl rfl) (j_b1 rfl rfl))) (j_thaw rfl (by exact (.eq (.eq (.eq (.eq (.eq (.eq (.no (.no (.eq (.eq .nil))))))))))) rfl (j_test (j_bin (j_v rfl) (j_fn (j_lcons (j_v rfl) j_lnil))))) .rf) (js_retc j_c) (js_nil .rf))) fun ab193 => (js_seq (st1 := fun (s226 : Unit) => [.no, .no, .ex (.sh (nd t162 0)), .ex (.sh (nd t162 1)), .ex (.sh (nd t162 2)), .no, .ex ab193.1, .ex ab193.2, .no, .no]) (js_if (j_bor (j_not (j_thaw rfl (by exact (.eq (.eq (.eq (.eq (.eq (.eq (.no (.no (.eq (.eq .nil))))))))))) rfl (j_test (j_call okq__law_is_net (j_lcons (j_v rfl) (j_lcons (j_v rfl) (j_lcons (j_v rfl) (j_lcons (j_v rfl) j_lnil)))))))) (j_not (j_thaw rfl (by exact (.eq (.eq (.eq (.eq (.eq (.eq (.no (.no (.eq (.eq .nil))))))))))) rfl (j_test (j_call okq__law_ships_right (j_lcons (j_v rfl) (j_lcons (j_v rfl) (j_lcons (j_v rfl) (j_lcons (j_v rfl) j_lnil)))))))) .rf) (js_retc j_c) (js_nil (by exact (.eq (.eq (.eq (.eq (.eq (.no (.eq (.eq (.eq (.eq .nil))))))))))))) fun s226 => (js_seq (st1 := fun (s253 : Unit) => [.no, .no, .ex (.sh (nd t162 0)), .ex (.sh (nd t162 1)), .ex (.sh (nd t162 2)), .no, .ex ab193.1, .ex ab193.2, .no, .no]) (js_if (j_bor (j_thaw rfl (by exact (.eq (.eq (.eq (.eq (.eq (.eq (.no (.no (.eq (.eq .nil))))))))))) rfl (j_test (j_bin (j_call okq_is_net (j_lcons (j_v rfl) (j_lcons (j_v rfl) (j_lcons (j_v rfl) (j_lcons (j_fn (j_lcons (j_v rfl) j_lnil)) j_lnil))))) j_c))) (j_thaw rfl (by exact (.eq (.eq (.eq (.eq (.eq (.eq (.no (.no (.eq (.eq .nil))))))))))) rfl (j_test (j_bin (j_call okq_lie_apart (j_lcons (j_fn (j_lcons (j_v rfl) j_lnil)) j_lnil)) j_c))) .rf) (js_retc j_c) (js_nil .rf)) fun s253 => (js_seq (st1 := fun (s266 : Unit) => [.no, .no, .ex (.sh (nd t162 0)), .ex (.sh (nd t162 1)), .ex (.sh (nd t162 2)), .no, .ex ab193.1, .ex ab193.2, .no, .no]) (js_if (j_test (j_bin (j_call okq_least_net (j_lcons (j_v rfl) (j_lcons (j_v rfl) (j_lcons (j_v rfl) j_lnil)))) (j_b1 rfl rfl))) (js_retc j_c) (js_nil .rf)) fun s266 => (js_seq (st1 := fun (v274 : OV) => [.no, .no, .ex (.sh (nd t162 0)), .ex (.sh (nd t162 1)), .ex (.sh (nd t162 2)), .no, .ex ab193.1, .ex ab193.2, .ex v274, .no]) (js_set (j_tup (j_lcons (j_cpB rfl) (j_lcons (j_cpB rfl) j_lnil)))) fun v274 => (js_seq (st1 := fun (v282 : OV) => [.no, .no, .ex (.sh (nd t162 0)), .ex (.sh (nd t162 1)), .ex (.sh (nd t162 2)), .no, .ex v282, .ex ab193.2, .ex v274, .no]) (js_mut rfl (j_lcons (j_tup (j_lcons j_c (j_lcons j_c j_lnil))) j_lnil) rfl) fun v282 => (js_seq (st1 := fun (v287 : OV) => [.no, .no, .ex (.sh (nd t162 0)), .ex (.sh (nd t162 1)), .ex (.sh (nd t162 2)), .no, .ex v282, .ex v287, .ex v274, .no]) (js_mut rfl (j_lcons j_c j_lnil) rfl) fun v287 => (js_seq (st1 := fun (s300 : Unit) => [.no, .no, .no, .no, .no, .no, .no, .no, .no, .no]) (js_if (j_test (j_bin (j_call okq_net_of (j_lcons (j_v rfl) (j_lcons (j_v rfl) (j_lcons (j_v rfl) j_lnil)))) (j_vx rfl))) (js_retc j_c) (js_nil (by exact (.eq (.eq (.no (.no (.no (.eq (.no (.no (.no (.eq .nil))))))))))))) fun s300 => (js_nil .rf))))))))))))
def q_law_0 (m2 : List SO) (a1 : PyData) : O Unit :=
  O.bind (O.bind (O.of (R.bind (R.bind (R.bind (R.bind (R.ok (.sh (.int 0))) fun e3 => R.bind (R.ok []) fun l4 => .ok (e3 :: l4)) fun l5 => szR l5.length (.lst l5)) fun e11 => R.bind (R.bind (R.ok (.sh a1)) fun e8 => R.bind (R.ok none) fun i9 => R.bind (R.bind (R.ok (.sh (.int 12))) fun e6 => R.bind (iR e6) fun i7 => .ok (some i7)) fun i10 => ofOR (gSl e8 i9 i10)) fun e12 => ofOR (gAdd e11 e12)) itR)) fun z303 => forO z303 (fun x14 s13 => q_law_1 m2 x14 s13) ()) fun s304 => O.bind (O.of (R.ok (.sh (.bool true)))) fun o305 => .ret o305
theorem okq_law_0 (m2 : List SO) (a1 : PyData) : jS m2 b_law [.ex (.sh a1), .un, .un, .un, .un, .un, .un, .un, .un, .un] (q_law_0 m2 a1) (fun _ : Unit => [.no, .no, .no, .no, .no, .no, .no, .no, .no, .no]) := by
  unfold q_law_0 b_law
  exact (js_seq (st1 := fun (s304 : Unit) => [.no, .no, .no, .no, .no, .no, .no, .no, .no, .no]) (js_forN (st := fun (s13 : Unit) => [.no, .no, .no, .no, .no, .no, .no, .no, .no, .no]) (j_ival (j_bin (j_lst (j_lcons j_c j_lnil)) (j_sl (j_v rfl) j_ono (j_osome j_c)))) (by exact (.no (.eq (.eq (.eq (.eq (.eq (.eq (.eq (.eq (.eq .nil))))))))))) (fun x14 s13 => okq_law_1 m2 x14 s13) (fun _ => rfl)) fun s304 => (js_retc j_c))
def q_law : List PyData → List SO → R OV
  | [a1], m2 => O.fin (q_law_0 m2 a1)
  | _, _ => .stk
theorem okq_law : jRP m_law q_law := fun ds m2 => match ds with
  | [a1] => j_def (qq := q_law_0 m2 a1) (okq_law_0 m2 a1)
  | [] => trivial
  | _ :: _ :: _ => trivial
end K22
namespace K22
open PySem PySem.Spec L2 Ev Com
open PyProof.Rows hiding St cnt
local macro_rules | `(tactic| decreasing_trivial_pre_omega) => `(tactic| simp only [fz_tup, ↓XR.bind_ok, ↓XR.bind_exc, ↓OX.bind_next, ↓OX.bind_ret, ↓OX.bind_exc, XR.bind_ok, XR.bind_exc, XR.of_ok, XR.of_exc, OX.bind_next, OX.bind_ret, OX.bind_exc, OX.of_ok, OX.of_exc, OX.lift_next, OX.lift_ret, OX.lift_exc, OX.fin_next, OX.fin_ret, OX.fin_exc, forX_nil, forX_cons, tryX_next, tryX_ret, andX_b, orX_b, mkX_ok, mkX_exc, fz_shL, itR_shL, ownR_shL, dLenP_l, dLenP_t, gIsiP_ll, gIsiP_tt, gIsiP_tl, gIsiP_lt, raiseO_s, raiseKO_s, tryO_next, tryO_ret, tryO_stk, gSubO_eq, orP_some, ↓R.bind_ok, ↓R.bind_exc, ↓R.bind_stk, ↓O.bind_next, ↓O.bind_ret, ↓O.bind_exc, ↓O.bind_stk, R.bind_ok, R.bind_exc, R.bind_stk, O.bind_next, O.bind_ret, O.bind_exc, O.bind_stk, O.of_ok, O.of_exc, O.of_stk, O.fin_next, O.fin_ret, O.fin_exc, ofOR_some, ofPR_some, toBR_b, andR_b, orR_b, chR_b, iR_i, noX_ok, szR_lit, Option.isSome_some, Option.isSome_none, mutR_app, mutR_some, ownR_lst, ownR_dk, ownR_dt, itR_tup, itR_list, itR_lst, unT_l2, unT_l3, unT_l4, unT_l5, unT_l6, unT_l7, unL_l2, unL_l3, unL_l4, unL_l5, unL_l6, unL_l7, nd0, nd1, nd2, nd3, nd4, nd5, nd6, par2R_ok, gAdd_int, gII_ok, gI_int, gOrd_int, gEq_int, fz_sh, fz_lst, gNot_b, g1, g1_one, gi_int_none, gi_int_bool, gi_int_int, gi_int_str, gi_int_list, gi_int_tuple, gi_bool_none, gi_bool_bool, gi_bool_int, gi_bool_str, gi_bool_list, gi_bool_tuple, gi_str_none, gi_str_bool, gi_str_int, gi_str_str, gi_str_list, gi_str_tuple, gi_list_none, gi_list_bool, gi_list_int, gi_list_str, gi_list_list, gi_list_tuple, gi_tuple_none, gi_tuple_bool, gi_tuple_int, gi_tuple_str, gi_tuple_list, gi_tuple_tuple, gMax_two, mApp_ok, ownT_lst, dLen_list, dLen_tup, gSub_list, gSub_tup, gSub_lst, atI_l0, atI_l1, atI_l2, atI_l3, atI_l4, atI_l5, atI_l6, Option.map_some, dInt_b, dInt_i, dAbs_i, List.map_cons, List.map_nil, List.cons_append, List.nil_append, if_true, if_false, Bool.false_eq_true, decide_true, decide_false, Bool.false_xor, Bool.true_xor, decide_eq_true_eq, List.length_cons, List.length_nil, nl0, nl1, nl2, nl3, nl4, nl5, nl6, nl7, nl8, nl9, nl10, nl11, nl12, nl13, nl14, nl15, nl16, nl17, nl18, nl19, nl20, Nat.reduceAdd, Nat.reduceSub, Nat.reduceMul, Int.reduceLT, Int.reduceEq, Int.reduceSub, Int.reduceAdd, Int.reduceNeg, Int.reduceLE, Int.reduceMul, Int.reduceToNat, sz_le, sz_lt, Nat.reduceLeDiff, Nat.reduceLT, Bool.not_true, Bool.not_false, Bool.true_and, Bool.and_true, Bool.false_and, Bool.and_false, Bool.true_or, Bool.or_true, Bool.false_or, Bool.or_false, rite_and, rite_or, rb_and, rb_or, Bool.decide_eq_true, Bool.decide_and, Bool.decide_or, gAdd_LL, gAdd_Ll, gAdd_lL, gAdd_lst, gAdd_TT, map_sh_fz, map_fz_shL, List.length_map, gEq_bool, eq_self, forO_nil, forO_cons, lcR_nil, rng1R_ok, rng2R_ok])
local macro_rules | `(tactic| get_elem_tactic_trivial) => `(tactic| simp only [fz_tup, ↓XR.bind_ok, ↓XR.bind_exc, ↓OX.bind_next, ↓OX.bind_ret, ↓OX.bind_exc, XR.bind_ok, XR.bind_exc, XR.of_ok, XR.of_exc, OX.bind_next, OX.bind_ret, OX.bind_exc, OX.of_ok, OX.of_exc, OX.lift_next, OX.lift_ret, OX.lift_exc, OX.fin_next, OX.fin_ret, OX.fin_exc, forX_nil, forX_cons, tryX_next, tryX_ret, andX_b, orX_b, mkX_ok, mkX_exc, fz_shL, itR_shL, ownR_shL, dLenP_l, dLenP_t, gIsiP_ll, gIsiP_tt, gIsiP_tl, gIsiP_lt, raiseO_s, raiseKO_s, tryO_next, tryO_ret, tryO_stk, gSubO_eq, orP_some, ↓R.bind_ok, ↓R.bind_exc, ↓R.bind_stk, ↓O.bind_next, ↓O.bind_ret, ↓O.bind_exc, ↓O.bind_stk, R.bind_ok, R.bind_exc, R.bind_stk, O.bind_next, O.bind_ret, O.bind_exc, O.bind_stk, O.of_ok, O.of_exc, O.of_stk, O.fin_next, O.fin_ret, O.fin_exc, ofOR_some, ofPR_some, toBR_b, andR_b, orR_b, chR_b, iR_i, noX_ok, szR_lit, Option.isSome_some, Option.isSome_none, mutR_app, mutR_some, ownR_lst, ownR_dk, ownR_dt, itR_tup, itR_list, itR_lst, unT_l2, unT_l3, unT_l4, unT_l5, unT_l6, unT_l7, unL_l2, unL_l3, unL_l4, unL_l5, unL_l6, unL_l7, nd0, nd1, nd2, nd3, nd4, nd5, nd6, par2R_ok, gAdd_int, gII_ok, gI_int, gOrd_int, gEq_int, fz_sh, fz_lst, gNot_b, g1, g1_one, gi_int_none, gi_int_bool, gi_int_int, gi_int_str, gi_int_list, gi_int_tuple, gi_bool_none, gi_bool_bool, gi_bool_int, gi_bool_str, gi_bool_list, gi_bool_tuple, gi_str_none, gi_str_bool, gi_str_int, gi_str_str, gi_str_list, gi_str_tuple, gi_list_none, gi_list_bool, gi_list_int, gi_list_str, gi_list_list, gi_list_tuple, gi_tuple_none, gi_tuple_bool, gi_tuple_int, gi_tuple_str, gi_tuple_list, gi_tuple_tuple, gMax_two, mApp_ok, ownT_lst, dLen_list, dLen_tup, gSub_list, gSub_tup, gSub_lst, atI_l0, atI_l1, atI_l2, atI_l3, atI_l4, atI_l5, atI_l6, Option.map_some, dInt_b, dInt_i, dAbs_i, List.map_cons, List.map_nil, List.cons_append, List.nil_append, if_true, if_false, Bool.false_eq_true, decide_true, decide_false, Bool.false_xor, Bool.true_xor, decide_eq_true_eq, List.length_cons, List.length_nil, nl0, nl1, nl2, nl3, nl4, nl5, nl6, nl7, nl8, nl9, nl10, nl11, nl12, nl13, nl14, nl15, nl16, nl17, nl18, nl19, nl20, Nat.reduceAdd, Nat.reduceSub, Nat.reduceMul, Int.reduceLT, Int.reduceEq, Int.reduceSub, Int.reduceAdd, Int.reduceNeg, Int.reduceLE, Int.reduceMul, Int.reduceToNat, sz_le, sz_lt, Nat.reduceLeDiff, Nat.reduceLT, Bool.not_true, Bool.not_false, Bool.true_and, Bool.and_true, Bool.false_and, Bool.and_false, Bool.true_or, Bool.or_true, Bool.false_or, Bool.or_false, rite_and, rite_or, rb_and, rb_or, Bool.decide_eq_true, Bool.decide_and, Bool.decide_or, gAdd_LL, gAdd_Ll, gAdd_lL, gAdd_lst, gAdd_TT, map_sh_fz, map_fz_shL, List.length_map, gEq_bool, eq_self, forO_nil, forO_cons, lcR_nil, rng1R_ok, rng2R_ok, *])
theorem sd {L : Nat} (h : 0 < L) (j : Nat) : (j + 1) / L = j / L + (if (j + 1) % L = 0 then 1 else 0) ∧ (j + 1) % L = (if j % L + 1 = L then 0 else j % L + 1) := by
  have e := Nat.div_add_mod j L
  have m := Nat.mod_lt j h
  generalize j / L = q at *
  generalize j % L = r at *
  subst e
  by_cases hr : r + 1 = L
  · have e1 : L * q + r + 1 = L * (q + 1) := by rw [Nat.mul_add, Nat.mul_one]; omega
    rw [e1, Nat.mul_mod_right, Nat.mul_div_cancel_left _ h]
    simp [hr]
  · have e1 : L * q + r + 1 = L * q + (r + 1) := by omega
    rw [e1, Nat.mul_add_div h, Nat.mul_add_mod, Nat.div_eq_of_lt (by omega : r + 1 < L), Nat.mod_eq_of_lt (by omega : r + 1 < L)]
    simp [hr]
theorem sd1 {L : Nat} (h : 0 < L) (j : Nat) : (j + 1) / L = j / L + (if (j + 1) % L = 0 then 1 else 0) := (sd h j).1
theorem sd2 {L : Nat} (h : 0 < L) (j : Nat) : (j + 1) / L = j / L + (if j % L + 1 = L then 1 else 0) := by
  rw [(sd h j).1, (sd h j).2]
  by_cases e : j % L + 1 = L <;> simp [e]
def cI (pl : Nat → Nat → Nat) (L r : Nat) : Nat → Nat → Nat
  | 0, _ => 0
  | j + 1, k => cI pl L r j k + (if pl r j % L = k then 1 else 0)
def cT (pl : Nat → Nat → Nat) (L C : Nat) : Nat → Nat → Nat
  | 0, _ => 0
  | i + 1, k => cT pl L C i k + cI pl L i C k
theorem caseA {L C : Nat} (h : 0 < L) : ∀ R, cT (fun _ c => c + 1) L C R 0 = R * (C / L) := by
  have h1 : ∀ r j, cI (fun _ c => c + 1) L r j 0 = j / L := fun r j => by
    induction j with
    | zero => simp [cI]
    | succ j ih => rw [cI, ih, sd1 h j]
  intro R
  induction R with
  | zero => simp [cT]
  | succ R ih => rw [cT, ih, h1, Nat.succ_mul]
theorem caseB {L C : Nat} (h : 0 < L) : ∀ R, cT (fun r _ => r + 1) L C R 0 = C * (R / L) := by
  have h1 : ∀ r j, cI (fun r _ => r + 1) L r j 0 = if (r + 1) % L = 0 then j else 0 := fun r j => by
    induction j with
    | zero => simp [cI]
    | succ j ih =>
      rw [cI, ih]
      by_cases e : (r + 1) % L = 0 <;> simp [e]
  intro R
  induction R with
  | zero => simp [cT]
  | succ R ih =>
    rw [cT, ih, h1, sd1 h R]
    by_cases e : (R + 1) % L = 0
    · simp [e, Nat.mul_add]
    · simp [e]
def lnF (R C L : Nat) : Nat := R * (C / L) + (R / L) * (C % L) + ((R % L + C % L) - L)
theorem div_add {L : Nat} (h : 0 < L) (r C : Nat) : (r + C) / L = r / L + C / L + (if L ≤ r % L + C % L then 1 else 0) := by
  have e := Nat.div_add_mod r L
  have e2 := Nat.div_add_mod C L
  have m := Nat.mod_lt r h
  have m2 := Nat.mod_lt C h
  generalize r / L = q at *
  generalize r % L = a at *
  generalize C / L = p at *
  generalize C % L = b at *
  subst e e2
  have e3 : L * q + a + (L * p + b) = L * (q + p) + (a + b) := by rw [Nat.mul_add]; omega
  rw [e3, Nat.mul_add_div h]
  by_cases hc : L ≤ a + b
  · rw [if_pos hc]
    have : (a + b) / L = 1 := by
      have : a + b = L * 1 + (a + b - L) := by omega
      rw [this, Nat.mul_add_div h, Nat.div_eq_of_lt (by omega)]
    rw [this]
  · rw [if_neg hc, Nat.div_eq_of_lt (by omega)]
theorem lnF_succ {L : Nat} (h : 0 < L) (n C : Nat) : lnF (n + 1) C L = lnF n C L + C / L + (if L ≤ n % L + C % L then 1 else 0) := by
  unfold lnF
  rw [sd2 h n, (sd h n).2, Nat.succ_mul]
  have m := Nat.mod_lt n h
  have m2 := Nat.mod_lt C h
  generalize n * (C / L) = A
  generalize C / L = p
  generalize n / L = q at *
  generalize n % L = a at *
  generalize C % L = b at *
  by_cases e : a + 1 = L
  · simp only [e, if_true]
    rw [Nat.add_mul]
    by_cases hb : L ≤ a + b
    · rw [if_pos hb]; omega
    · rw [if_neg hb]; omega
  · simp only [e, if_false, Nat.add_zero]
    by_cases hb : L ≤ a + b
    · rw [if_pos hb]; omega
    · rw [if_neg hb]; omega
theorem lnF_step {L : Nat} (h : 0 < L) (n C : Nat) : lnF (n + 1) C L + n / L = lnF n C L + (n + C) / L := by
  rw [lnF_succ h, div_add h]
  omega
theorem hit {L k : Nat} (h : 0 < L) (hk : k < L) (n : Nat) : (n + 1 + (L - 1 - k)) / L = (n + (L - 1 - k)) / L + (if n % L = k then 1 else 0) := by
  have e : n + 1 + (L - 1 - k) = (n + (L - 1 - k)) + 1 := by omega
  rw [e, sd2 h]
  have m := Nat.mod_lt n h
  have e2 : (n + (L - 1 - k)) % L = if n % L ≤ k then n % L + (L - 1 - k) else n % L - k - 1 := by
    rw [← Nat.mod_add_mod n L (L - 1 - k)]
    by_cases c : n % L ≤ k
    · rw [if_pos c, Nat.mod_eq_of_lt (by omega)]
    · rw [if_neg c]
      have : n % L + (L - 1 - k) = (n % L - k - 1) + L := by omega
      rw [this, Nat.add_mod_right, Nat.mod_eq_of_lt (by omega)]
  rw [e2]
  by_cases c : n % L = k
  · rw [if_pos c, if_pos (by omega : n % L ≤ k), if_pos (by omega)]
  · rw [if_neg c]
    by_cases c2 : n % L ≤ k
    · rw [if_pos c2, if_neg (by omega)]
    · rw [if_neg c2, if_neg (by omega)]
theorem cI_eq {L k : Nat} (h : 0 < L) (hk : k < L) (r : Nat) : ∀ j, cI (fun r c => r + c) L r j k + (r + (L - 1 - k)) / L = (r + j + (L - 1 - k)) / L
  | 0 => by simp [cI]
  | j + 1 => by
    have ih := cI_eq h hk r j
    have := hit h hk (r + j)
    rw [cI]
    have e : r + (j + 1) + (L - 1 - k) = r + j + 1 + (L - 1 - k) := by omega
    rw [e, this]
    omega
theorem cT_eq {L k : Nat} (h : 0 < L) (hk : k < L) (C : Nat) : ∀ i, cT (fun r c => r + c) L C i k + lnF (L - 1 - k) C L = lnF (i + (L - 1 - k)) C L
  | 0 => by simp [cT]
  | i + 1 => by
    have ih := cT_eq h hk C i
    have a := cI_eq h hk i C
    have b := lnF_step h (i + (L - 1 - k)) C
    rw [cT]
    have e1 : i + 1 + (L - 1 - k) = i + (L - 1 - k) + 1 := by omega
    have e2 : i + (L - 1 - k) + C = i + C + (L - 1 - k) := by omega
    rw [e1]
    rw [e2] at b
    omega
theorem lnF_zero {C L : Nat} (h : 0 < L) : lnF 0 C L = 0 := by
  unfold lnF
  have := Nat.mod_lt C h
  simp
  omega
theorem lnF_super {L : Nat} (h : 0 < L) (i s C : Nat) (hs : s < L) : lnF i C L + lnF s C L ≤ lnF (i + s) C L := by
  unfold lnF
  have m2 := Nat.mod_lt C h
  have m := Nat.mod_lt i h
  rw [div_add h i s, Nat.div_eq_of_lt hs, Nat.mod_eq_of_lt hs, Nat.add_mul i s]
  have e2 : (i + s) % L = if i % L + s < L then i % L + s else i % L + s - L := by
    rw [← Nat.mod_add_mod i L s]
    by_cases c : i % L + s < L
    · rw [if_pos c, Nat.mod_eq_of_lt c]
    · rw [if_neg c, Nat.mod_eq_sub_mod (by omega), Nat.mod_eq_of_lt (by omega)]
  rw [e2]
  generalize i * (C / L) = A
  generalize s * (C / L) = B
  generalize C % L = b at *
  generalize i % L = a at *
  rw [Nat.add_zero, Nat.zero_mul, Nat.add_mul]
  generalize i / L * b = D
  by_cases c : a + s < L
  · rw [if_pos c, if_neg (by omega)]; omega
  · rw [if_neg c, if_pos (by omega), Nat.one_mul]; omega
theorem caseC {L R C : Nat} (h : 0 < L) : cT (fun r c => r + c) L C R (L - 1) = lnF R C L ∧ ∀ k, k < L → lnF R C L ≤ cT (fun r c => r + c) L C R k := by
  have e := cT_eq h (by omega : L - 1 < L) C R
  have e0 : L - 1 - (L - 1) = 0 := by omega
  rw [e0, lnF_zero h] at e
  refine ⟨by simpa using e, fun k hk => ?_⟩
  have e := cT_eq h hk C R
  have := lnF_super h R (L - 1 - k) C (by omega)
  omega
def lN (R C L : Nat) : Nat := if R < L then (if C < L then 0 else R * (C / L)) else if C < L then C * (R / L) else lnF R C L
theorem minAt_spec {L : Nat} (hL : 0 < L) (cnt : Nat → Nat) : minAt ((List.range L).map cnt) < L ∧ ∀ k, k < L → cnt (minAt ((List.range L).map cnt)) ≤ cnt k := by
  obtain ⟨h1, h2⟩ := argBest_lt (fun i => ((((List.range L).map cnt).getD i 0 : Nat) : Int)) (L - 1)
  have e : ∀ i, i < L → ((List.range L).map cnt).getD i 0 = cnt i := fun i hi => by
    rw [List.getD_eq_getElem?_getD, List.getElem?_map, List.getElem?_range hi]
    rfl
  have hm : minAt ((List.range L).map cnt) = argBest (fun i j => decide ((((List.range L).map cnt).getD i 0 : Int) < (((List.range L).map cnt).getD j 0 : Nat))) (L - 1) := by
    unfold minAt
    rw [List.length_map, List.length_range]
  rw [hm]
  refine ⟨by omega, fun k hk => ?_⟩
  have := h2 k (by omega)
  rw [e k hk, e _ (by omega)] at this
  omega
def rowK (pl : Nat → Nat → Nat) (n r j k : Nat) : List Cell := ((List.range j).filter fun c => decide (pl r c % n = k)).map fun c => (((r : Nat) : Int), ((c : Nat) : Int))
def netP (pl : Nat → Nat → Nat) (n C i k : Nat) : List Cell := (List.range i).flatMap fun r => rowK pl n r C k
theorem rowK_succ {pl : Nat → Nat → Nat} {n r j k : Nat} : rowK pl n r (j + 1) k = rowK pl n r j k ++ if pl r j % n = k then [(((r : Nat) : Int), ((j : Nat) : Int))] else [] := by
  unfold rowK
  rw [List.range_succ, List.filter_append, List.map_append]
  congr 1
  by_cases e : pl r j % n = k <;> simp [e]
theorem netP_succ {pl : Nat → Nat → Nat} {n C i k : Nat} : netP pl n C (i + 1) k = netP pl n C i k ++ rowK pl n i C k := by
  unfold netP
  rw [List.range_succ, List.flatMap_append]
  simp
theorem rowK_len {pl : Nat → Nat → Nat} {n r k : Nat} : ∀ j, (rowK pl n r j k).length = cI pl n r j k
  | 0 => rfl
  | j + 1 => by
    rw [rowK_succ, List.length_append, rowK_len j, cI]
    by_cases e : pl r j % n = k <;> simp [e]
theorem netP_len {pl : Nat → Nat → Nat} {n C k : Nat} : ∀ i, (netP pl n C i k).length = cT pl n C i k
  | 0 => rfl
  | i + 1 => by rw [netP_succ, List.length_append, netP_len i, rowK_len, cT]
theorem rowK_le {pl : Nat → Nat → Nat} {n r j k : Nat} : (rowK pl n r j k).length ≤ j := by
  unfold rowK
  rw [List.length_map]
  exact Nat.le_trans (List.length_filter_le _ _) (by rw [List.length_range]; exact Nat.le_refl _)
theorem netP_le {pl : Nat → Nat → Nat} {n C k : Nat} : ∀ i, (netP pl n C i k).length ≤ i * C
  | 0 => by simp [netP]
  | i + 1 => by
    have := netP_le (pl := pl) (n := n) (C := C) (k := k) i
    have := rowK_le (pl := pl) (n := n) (r := i) (j := C) (k := k)
    rw [netP_succ, List.length_append, Nat.succ_mul]
    omega
theorem mem_rowK {pl : Nat → Nat → Nat} {n r j k : Nat} {p : Cell} : p ∈ rowK pl n r j k ↔ ∃ c : Nat, c < j ∧ pl r c % n = k ∧ p = (((r : Nat) : Int), ((c : Nat) : Int)) := by
  unfold rowK
  rw [List.mem_map]
  constructor
  · rintro ⟨c, h, rfl⟩
    rw [List.mem_filter, List.mem_range, decide_eq_true_eq] at h
    exact ⟨c, h.1, h.2, rfl⟩
  · rintro ⟨c, h1, h2, rfl⟩
    exact ⟨c, List.mem_filter.mpr ⟨List.mem_range.mpr h1, decide_eq_true h2⟩, rfl⟩
theorem mem_netP {pl : Nat → Nat → Nat} {n C i k : Nat} {p : Cell} : p ∈ netP pl n C i k ↔ ∃ r c : Nat, r < i ∧ c < C ∧ pl r c % n = k ∧ p = (((r : Nat) : Int), ((c : Nat) : Int)) := by
  unfold netP
  rw [List.mem_flatMap]
  constructor
  · rintro ⟨r, hr, h⟩
    obtain ⟨c, h1, h2, h3⟩ := mem_rowK.mp h
    exact ⟨r, c, List.mem_range.mp hr, h1, h2, h3⟩
  · rintro ⟨r, c, hr, h1, h2, h3⟩
    exact ⟨r, List.mem_range.mpr hr, mem_rowK.mpr ⟨c, h1, h2, h3⟩⟩
def netPl (R C n r c : Nat) : Nat := if C < n then r + 1 else if R < n then c + 1 else r + c
def nF (n : Nat) (f : Nat → List Cell) : OV := .lst (((List.range n).map f).map (shL cD))
theorem set_map {n k : Nat} {f : Nat → List Cell} {p : Cell} : ((List.range n).map f).set k (f k ++ [p]) = (List.range n).map fun q => f q ++ if k = q then [p] else [] := by
  apply List.ext_getElem?
  intro j
  by_cases e : k = j
  · subst e
    by_cases hk : k < n
    · rw [List.getElem?_set_self (by simpa using hk), List.getElem?_map, List.getElem?_range hk]
      simp
    · rw [List.getElem?_eq_none (by simp; omega), List.getElem?_eq_none (by simp; omega)]
  · rw [List.getElem?_set_ne e, List.getElem?_map, List.getElem?_map]
    by_cases hj : j < n
    · rw [List.getElem?_range hj]
      simp [e]
    · rw [List.getElem?_eq_none (by simp; omega)]
      rfl
theorem at_nF {n k : Nat} {f : Nat → List Cell} (hk : k < n) : (((List.range n).map f).map (shL cD))[k]? = some (shL cD (f k)) := by
  rw [List.getElem?_map, List.getElem?_map, List.getElem?_range hk]; rfl
theorem sub_nF {n k : Nat} {f : Nat → List Cell} (hk : k < n) : subR (nF n f) (.sh (.int (k : Nat))) = .ok (shL cD (f k)) := by
  unfold subR nF subO
  rw [fz_sh]
  simp only [List.length_map, List.length_range, ixN_of hk, Option.bind_some, at_nF hk]
theorem put_nF {n k : Nat} {f : Nat → List Cell} {p : Cell} (hk : k < n) : putO (nF n f) (.int (k : Nat)) (shL cD (f k ++ [p])) = nF n (fun q => f q ++ if k = q then [p] else []) := by
  unfold nF putO
  simp only [List.length_map, List.length_range, ixN_of hk]
  rw [← set_map, List.map_set]
section
variable {R C n : Nat}
theorem cell_step {r c : Nat} {f : Nat → List Cell} (hn : 1 ≤ n) (hl : ∀ q, (f q).length < 100000) :
    q_net_cells_1 (.int (R : Nat)) (.int (C : Nat)) (.int (n : Nat)) (.int (r : Nat)) (.int (c : Nat)) (nF n f) = .next (nF n fun q => f q ++ if netPl R C n r c % n = q then [(((r : Nat) : Int), ((c : Nat) : Int))] else []) := by
  have hk : netPl R C n r c % n < n := Nat.mod_lt _ hn
  have g1 : gGt (.sh (.int (n : Nat))) (.sh (.int (R : Nat))) = some (.sh (.bool (decide (R < n)))) := by
    rw [show gGt (.sh (.int (n : Nat))) (.sh (.int (R : Nat))) = some (.sh (.bool (decide (((n : Nat) : Int) > ((R : Nat) : Int))))) from rfl]
    congr 3
    exact decide_eq_decide.mpr (by omega)
  have g2 : gGt (.sh (.int (n : Nat))) (.sh (.int (C : Nat))) = some (.sh (.bool (decide (C < n)))) := by
    rw [show gGt (.sh (.int (n : Nat))) (.sh (.int (C : Nat))) = some (.sh (.bool (decide (((n : Nat) : Int) > ((C : Nat) : Int))))) from rfl]
    congr 3
    exact decide_eq_decide.mpr (by omega)
  have a0 : gAdd (.sh (.int (r : Nat))) (.sh (.int (c : Nat))) = some (.sh (.int ((r + c : Nat) : Int))) := rfl
  have a1 : gAdd (.sh (.int (r : Nat))) (.sh (.int 1)) = some (.sh (.int ((r + 1 : Nat) : Int))) := rfl
  have a2 : gAdd (.sh (.int (c : Nat))) (.sh (.int 1)) = some (.sh (.int ((c + 1 : Nat) : Int))) := rfl
  have gm : ∀ x : Nat, gModI (.sh (.int (x : Nat))) (.sh (.int (n : Nat))) = some (.sh (.int ((x % n : Nat) : Int))) := fun x => gII_ok (decide_eq_true (by omega))
  have ow : ∀ l : List Cell, ownR "list" (shL cD l) = .ok () := fun _ => rfl
  have ap : ∀ l : List Cell, l.length < 100000 → mutR mApp (shL cD l) [.sh (.tuple [.int (r : Nat), .int (c : Nat)])] = .ok (shL cD (l ++ [(((r : Nat) : Int), ((c : Nat) : Int))]), .sh .none) := fun l h => by
    have := app_shL (en := cD) (a := l) (c := (((r : Nat) : Int), ((c : Nat) : Int))) (by rw [sizeLine_eq]; omega)
    unfold mutR
    rw [show OV.sh (.tuple [.int (r : Nat), .int (c : Nat)]) = .sh (cD (((r : Nat) : Int), ((c : Nat) : Int))) from rfl, this]
  have key : ∀ k, k < n → netPl R C n r c % n = k → (Ev.R.bind (subR (nF n f) (.sh (.int (k : Nat)))) fun o373 => Ev.R.bind (ownR "list" o373) fun _ => Ev.R.bind (mutR mApp o373 [.sh (.tuple [.int (r : Nat), .int (c : Nat)])]) fun r371 => .ok (putO (nF n f) (.int (k : Nat)) r371.1)) = Ev.R.ok (nF n fun q => f q ++ if netPl R C n r c % n = q then [(((r : Nat) : Int), ((c : Nat) : Int))] else []) := fun k h e => by
    rw [sub_nF h, Ev.R.bind_ok, ow, Ev.R.bind_ok, ap _ (hl k), Ev.R.bind_ok, put_nF h, e]
  have z : ∀ x : Nat, netPl R C n r c = x → (Ev.R.bind (ofOR (gModI (.sh (.int (x : Nat))) (.sh (.int (n : Nat))))) fun k372 => Ev.R.bind (subR (nF n f) k372) fun o373 => Ev.R.bind (ownR "list" o373) fun _ => Ev.R.bind (mutR mApp o373 [.sh (.tuple [.int (r : Nat), .int (c : Nat)])]) fun r371 => .ok (putO (nF n f) (fz k372) r371.1)) = Ev.R.ok (nF n fun q => f q ++ if netPl R C n r c % n = q then [(((r : Nat) : Int), ((c : Nat) : Int))] else []) := fun x e => by
    rw [gm, ofOR_some, Ev.R.bind_ok, fz_sh]
    exact key (x % n) (by rw [← e]; exact hk) (by rw [e])
  clear key gm ap ow hl hk
  by_cases c2 : C < n
  · rw [decide_eq_true c2] at g2
    have z := z (r + 1) (if_pos c2)
    by_cases c1 : R < n
    · rw [decide_eq_true c1] at g1
      unfold q_net_cells_1
      get_elem_tactic_trivial
    · rw [decide_eq_false c1] at g1
      unfold q_net_cells_1
      get_elem_tactic_trivial
  · rw [decide_eq_false c2] at g2
    by_cases c1 : R < n
    · rw [decide_eq_true c1] at g1
      have z := z (c + 1) (by unfold netPl; rw [if_neg c2, if_pos c1])
      unfold q_net_cells_1
      get_elem_tactic_trivial
    · rw [decide_eq_false c1] at g1
      have z := z (r + c) (by unfold netPl; rw [if_neg c2, if_neg c1])
      unfold q_net_cells_1
      get_elem_tactic_trivial
theorem inner_loop {r : Nat} {f : Nat → List Cell} (hn : 1 ≤ n) (hC : C ≤ 1000) (hl : ∀ q, (f q).length ≤ 90000) :
    forO ((List.range C).map fun z => .int ((z : Nat) : Int)) (fun x s => q_net_cells_1 (.int (R : Nat)) (.int (C : Nat)) (.int (n : Nat)) (.int (r : Nat)) x s) (nF n f) = .next (nF n fun q => f q ++ rowK (netPl R C n) n r C q) := by
  obtain ⟨s, e, h⟩ := forO_inv (f := fun x s => q_net_cells_1 (.int (R : Nat)) (.int (C : Nat)) (.int (n : Nat)) (.int (r : Nat)) x s) (fun j s => s = nF n fun q => f q ++ rowK (netPl R C n) n r j q)
    ((List.range C).map fun z => .int ((z : Nat) : Int)) 0 (nF n f) (by simp [rowK]) fun j d s hj hs => by
      rw [Nat.zero_add] at hs ⊢
      subst hs
      rw [List.getElem?_map] at hj
      obtain ⟨y, hy, rfl⟩ := Option.map_eq_some_iff.mp hj
      have hj : j < C := by
        have := (List.getElem?_eq_some_iff.mp hy).1
        simpa using this
      rw [List.getElem?_range hj] at hy
      cases hy
      refine ⟨_, cell_step hn fun q => ?_, ?_⟩
      · have := rowK_le (pl := netPl R C n) (n := n) (r := r) (j := j) (k := q)
        have := hl q
        rw [List.length_append]; omega
      · congr 1
        funext q
        rw [rowK_succ, List.append_assoc]
  rw [e, h, List.length_map, List.length_range, Nat.zero_add]
theorem row_step {r : Nat} {f : Nat → List Cell} (hn : 1 ≤ n) (hC : C ≤ 1000) (hl : ∀ q, (f q).length ≤ 90000) :
    q_net_cells_2 (.int (R : Nat)) (.int (C : Nat)) (.int (n : Nat)) (.int (r : Nat)) (nF n f) = .next (nF n fun q => f q ++ rowK (netPl R C n) n r C q) := by
  have lp := inner_loop (R := R) (r := r) hn hC hl
  have rg := rng1R_n (k := C) (by omega)
  generalize (nF n fun q => f q ++ rowK (netPl R C n) n r C q) = S1 at *
  clear hl
  unfold q_net_cells_2
  get_elem_tactic_trivial
theorem outer_loop (hn : 1 ≤ n) (hR : R ≤ 80) (hC : C ≤ 1000) :
    forO ((List.range R).map fun z => .int ((z : Nat) : Int)) (fun x s => q_net_cells_2 (.int (R : Nat)) (.int (C : Nat)) (.int (n : Nat)) x s) (nF n fun _ => []) = .next (nF n fun q => netP (netPl R C n) n C R q) := by
  obtain ⟨s, e, h⟩ := forO_inv (f := fun x s => q_net_cells_2 (.int (R : Nat)) (.int (C : Nat)) (.int (n : Nat)) x s) (fun j s => s = nF n fun q => netP (netPl R C n) n C j q)
    ((List.range R).map fun z => .int ((z : Nat) : Int)) 0 (nF n fun _ => []) (by simp [netP]) fun j d s hj hs => by
      rw [Nat.zero_add] at hs ⊢
      subst hs
      rw [List.getElem?_map] at hj
      obtain ⟨y, hy, rfl⟩ := Option.map_eq_some_iff.mp hj
      have hj : j < R := by
        have := (List.getElem?_eq_some_iff.mp hy).1
        simpa using this
      rw [List.getElem?_range hj] at hy
      cases hy
      refine ⟨_, row_step hn hC fun q => ?_, ?_⟩
      · have := netP_le (pl := netPl R C n) (n := n) (C := C) (k := q) j
        have : j * C ≤ 80 * 1000 := Nat.mul_le_mul (by omega) hC
        omega
      · congr 1
        funext q
        rw [netP_succ]
  rw [e, h, List.length_map, List.length_range, Nat.zero_add]
def netR (R C n : Nat) : List Cell := if R < n ∧ C < n then [] else if R < n ∨ C < n then netP (netPl R C n) n C R 0 else netP (netPl R C n) n C R (minAt ((List.range n).map (cT (netPl R C n) n C R)))
theorem lens_nF {f : Nat → List Cell} : lensO (((List.range n).map f).map (shL cD)) = some ((List.range n).map fun q => (f q).length) := by
  have : ∀ l : List (List Cell), lensO (l.map (shL cD)) = some (l.map List.length) := fun l => by
    induction l with
    | nil => rfl
    | cons x l ih =>
      rw [List.map_cons]
      show (lensO (l.map (shL cD))).map ((x.map _).length :: ·) = _
      rw [ih, List.length_map]
      rfl
  rw [this, List.map_map]
  rfl
theorem net_q (hn : 1 ≤ n) (hn2 : n ≤ 1000) (hR : R ≤ 80) (hC : C ≤ 1000) : q_net_cells [.int (R : Nat), .int (C : Nat), .int (n : Nat)] = .ok (shL cD (netR R C n)) := by
  have g1 : gGt (.sh (.int (n : Nat))) (.sh (.int (R : Nat))) = some (.sh (.bool (decide (R < n)))) := by
    rw [show gGt (.sh (.int (n : Nat))) (.sh (.int (R : Nat))) = some (.sh (.bool (decide (((n : Nat) : Int) > ((R : Nat) : Int))))) from rfl]
    congr 3
    exact decide_eq_decide.mpr (by omega)
  have g2 : gGt (.sh (.int (n : Nat))) (.sh (.int (C : Nat))) = some (.sh (.bool (decide (C < n)))) := by
    rw [show gGt (.sh (.int (n : Nat))) (.sh (.int (C : Nat))) = some (.sh (.bool (decide (((n : Nat) : Int) > ((C : Nat) : Int))))) from rfl]
    congr 3
    exact decide_eq_decide.mpr (by omega)
  have lp := outer_loop (R := R) (C := C) hn hR hC
  have rgn := rng1R_n (k := n) (by omega)
  have rgR := rng1R_n (k := R) (by omega)
  have lc : lcR (fun x : PyData => Ev.R.ok (some (OV.lst []))) ((List.range n).map fun z => .int ((z : Nat) : Int)) = .ok ((List.range n).map fun _ => OV.lst []) := lcR_map (fun z : Nat => PyData.int (z : Nat)) (fun _ => OV.lst []) (List.range n) fun _ _ => rfl
  have e0 : OV.lst ((List.range n).map fun _ => OV.lst []) = nF n fun _ => [] := by
    unfold nF
    rw [List.map_map]
    rfl
  have sz : szR (List.range n).length (OV.lst ((List.range n).map fun _ => OV.lst [])) = .ok (nF n fun _ => []) := by rw [List.length_range, szR_ok (by rw [sizeLine_eq]; omega), e0]
  have tI : tkIR (nF n fun q => netP (netPl R C n) n C R q) 0 = .ok (shL cD (netP (netPl R C n) n C R 0)) := by
    unfold tkIR nF
    simp only [List.length_map, List.length_range]
    rw [show (0 : Int) = ((0 : Nat) : Int) from rfl, ixN_of (show 0 < n from hn)]
    simp only [at_nF (show 0 < n from hn)]
  have hm := (minAt_spec (show 0 < n from hn) (cT (netPl R C n) n C R)).1
  have tM : tkMR (nF n fun q => netP (netPl R C n) n C R q) = .ok (shL cD (netP (netPl R C n) n C R (minAt ((List.range n).map (cT (netPl R C n) n C R))))) := by
    unfold tkMR nF
    simp only [lens_nF]
    have e1 : ((List.range n).map fun q => (netP (netPl R C n) n C R q).length) = (List.range n).map (cT (netPl R C n) n C R) := List.map_congr_left fun q _ => netP_len R
    rw [if_pos (by simp; omega), e1]
    simp only [at_nF hm]
  have e3 : ∀ l : List Cell, (OV.lst []) = shL cD ([] : List Cell) := fun _ => rfl
  clear e0 hm
  by_cases c1 : R < n
  · rw [decide_eq_true c1] at g1
    by_cases c2 : C < n
    · rw [decide_eq_true c2] at g2
      rw [show netR R C n = [] from if_pos ⟨c1, c2⟩]
      show _ = Ev.R.ok (OV.lst [])
      unfold q_net_cells q_net_cells_0
      get_elem_tactic_trivial
    · rw [decide_eq_false c2] at g2
      rw [show netR R C n = netP (netPl R C n) n C R 0 by unfold netR; rw [if_neg (fun z => c2 z.2), if_pos (.inl c1)]]
      generalize (nF n fun q => netP (netPl R C n) n C R q) = S1 at *
      generalize (nF n fun _ => []) = S0 at *
      unfold q_net_cells q_net_cells_0
      get_elem_tactic_trivial
  · rw [decide_eq_false c1] at g1
    by_cases c2 : C < n
    · rw [decide_eq_true c2] at g2
      rw [show netR R C n = netP (netPl R C n) n C R 0 by unfold netR; rw [if_neg (fun z => c1 z.1), if_pos (.inr c2)]]
      generalize (nF n fun q => netP (netPl R C n) n C R q) = S1 at *
      generalize (nF n fun _ => []) = S0 at *
      unfold q_net_cells q_net_cells_0
      get_elem_tactic_trivial
    · rw [decide_eq_false c2] at g2
      rw [show netR R C n = netP (netPl R C n) n C R (minAt ((List.range n).map (cT (netPl R C n) n C R))) by unfold netR; rw [if_neg (fun z => c1 z.1), if_neg (fun z => z.elim c1 c2)]]
      generalize (nF n fun q => netP (netPl R C n) n C R q) = S1 at *
      generalize (nF n fun _ => []) = S0 at *
      unfold q_net_cells q_net_cells_0
      get_elem_tactic_trivial
theorem netR_len (hn : 1 ≤ n) : (netR R C n).length = lN R C n := by
  unfold netR lN
  by_cases c1 : R < n
  · by_cases c2 : C < n
    · rw [if_pos ⟨c1, c2⟩, if_pos c1, if_pos c2]; rfl
    · rw [if_neg (fun z => c2 z.2), if_pos (.inl c1), if_pos c1, if_neg c2, netP_len]
      have : netPl R C n = fun _ c => c + 1 := by funext r c; simp [netPl, c1, c2]
      rw [this, caseA hn]
  · by_cases c2 : C < n
    · rw [if_neg (fun z => c1 z.1), if_pos (.inr c2), if_neg c1, if_pos c2, netP_len]
      have : netPl R C n = fun r _ => r + 1 := by funext r c; simp [netPl, c2]
      rw [this, caseB hn]
    · rw [if_neg (fun z => c1 z.1), if_neg (fun z => z.elim c1 c2), if_neg c1, if_neg c2, netP_len]
      have : netPl R C n = fun r c => r + c := by funext r c; simp [netPl, c1, c2]
      rw [this]
      obtain ⟨m1, m2⟩ := minAt_spec (show 0 < n from hn) (cT (fun r c => r + c) n C R)
      obtain ⟨q1, q2⟩ := caseC (R := R) (C := C) (show 0 < n from hn)
      have u1 := m2 (n - 1) (by omega)
      have u2 := q2 _ m1
      omega
theorem mem_netR (hn : 1 ≤ n) (h : ¬ (R < n ∧ C < n)) : ∃ k, k < n ∧ ((R < n ∨ C < n) → k = 0) ∧ ∀ p : Cell, p ∈ netR R C n ↔ ∃ r c : Nat, r < R ∧ c < C ∧ netPl R C n r c % n = k ∧ p = (((r : Nat) : Int), ((c : Nat) : Int)) := by
  unfold netR
  rw [if_neg h]
  by_cases c : R < n ∨ C < n
  · rw [if_pos c]
    exact ⟨0, hn, fun _ => rfl, fun p => mem_netP⟩
  · rw [if_neg c]
    exact ⟨_, (minAt_spec (show 0 < n from hn) _).1, fun z => (c z).elim, fun p => mem_netP⟩
end
def stepsL (a b n : Nat) : List Nat := (List.range ((b - a) / n)).map fun k => a + k * n
def rowsS (t b l r n : Nat) : List Ship := (List.range (b - t)).flatMap fun (i : Nat) => (stepsL l r n).map fun (c : Nat) => ⟨((t + i : Nat) : Int), ((c : Nat) : Int), true, n⟩
def colsD (t b l r n : Nat) : List Ship := (List.range (r - l)).flatMap fun (j : Nat) => (stepsL t b n).map fun (i : Nat) => ⟨((i : Nat) : Int), ((l + j : Nat) : Int), false, n⟩
def colsS (t b l r n : Nat) : List Ship := if n = 1 then rowsS t b l r 1 else colsD t b l r n
theorem steps_len {a b n : Nat} : (stepsL a b n).length = (b - a) / n := by unfold stepsL; rw [List.length_map, List.length_range]
theorem size_of {l r n : Nat} (hn : 1 ≤ n) : (Builtin.Range.rangeSize (l : Nat) ((r : Nat) - (n : Nat) + 1) (n : Nat)).toNat = (r - l) / n := by
  unfold Builtin.Range.rangeSize
  rw [if_pos (by omega)]
  by_cases h : ((l : Nat) : Int) < (r : Nat) - (n : Nat) + 1
  · rw [if_pos h]
    have e : ((r : Nat) : Int) - (n : Nat) + 1 - (l : Nat) - 1 = ((r - l - n : Nat) : Int) := by omega
    have e2 : r - l = (r - l - n) + n := by omega
    rw [e, ← Int.natCast_ediv]
    conv => rhs; rw [e2, Nat.add_div_right _ hn]
    generalize (r - l - n) / n = q
    omega
  · rw [if_neg h, Nat.div_eq_of_lt (by omega)]
    rfl
theorem step_ok {l r n : Nat} (hn : 1 ≤ n) (hn2 : n ≤ 1000) (hl : l ≤ 1000) (hr : r ≤ 1000) : stepOk (l : Nat) ((r : Nat) - (n : Nat) + 1) (n : Nat) = true := by
  unfold stepOk
  have a : decide (((n : Nat) : Int) ≠ 0) = true := decide_eq_true (by omega)
  have b : decide (((n : Nat) : Int).natAbs < 1073741824) = true := decide_eq_true (by omega)
  have d : decide (0 ≤ Builtin.Range.rangeSize (l : Nat) ((r : Nat) - (n : Nat) + 1) (n : Nat)) = true := decide_eq_true (by
    unfold Builtin.Range.rangeSize
    rw [if_pos (by omega)]
    by_cases h : ((l : Nat) : Int) < (r : Nat) - (n : Nat) + 1
    · rw [if_pos h]
      have := Int.ediv_nonneg (show (0 : Int) ≤ (r : Nat) - (n : Nat) + 1 - (l : Nat) - 1 by omega) (show (0 : Int) ≤ (n : Nat) by omega)
      omega
    · rw [if_neg h]; decide)
  have d' := of_decide_eq_true d
  have c : Builtin.Range.small (l : Nat) ((r : Nat) - (n : Nat) + 1) (n : Nat) = true := by
    have f : ∀ i : Int, -100000 ≤ i → i ≤ 100000 → Builtin.Range.rangeFitsLong i = true := fun i h1 h2 => by
      unfold Builtin.Range.rangeFitsLong
      simp
      omega
    have sz := size_of (l := l) (r := r) hn
    have sz2 : Builtin.Range.rangeSize (l : Nat) ((r : Nat) - (n : Nat) + 1) (n : Nat) ≤ 100000 := by
      have := Nat.div_le_self (r - l) n
      omega
    unfold Builtin.Range.small
    rw [f _ (by omega) (by omega), f _ (by omega) (by omega), f _ (by omega) (by omega), f _ (by omega) sz2]
    simp only [Bool.true_and, Bool.or_eq_true]
    refine .inr ?_
    rw [if_pos (by omega)]
    exact f _ (by omega) (by omega)
  rw [a, b, c, d]; rfl
theorem rng3_q {l r n : Nat} (hn : 1 ≤ n) (hn2 : n ≤ 1000) (hl : l ≤ 1000) (hr : r ≤ 1000) : rng3R [.sh (.int (l : Nat)), .sh (.int ((r : Nat) - (n : Nat) + 1)), .sh (.int (n : Nat))] = .ok ((stepsL l r n).map fun c => .int ((c : Nat) : Int)) := by
  unfold rng3R
  simp only
  rw [if_pos (step_ok hn hn2 hl hr), size_of hn]
  unfold stepD stepsL
  rw [List.map_map]
  refine congrArg R.ok (List.map_congr_left fun k _ => ?_)
  show PyData.int _ = PyData.int _
  exact congrArg PyData.int (by push_cast; rfl)
theorem up_q {t b : Nat} (ht : t ≤ 1000) (hb : b ≤ 1000) : rng2R [.sh (.int (t : Nat)), .sh (.int (b : Nat))] = .ok ((List.range (b - t)).map fun i => .int ((t + i : Nat) : Int)) := by
  rw [rng2R_ok (rngOk_of (by omega) (by omega)) (rngOk_of (by omega) (by omega))]
  unfold upto
  have : ((b : Nat) : Int) - (t : Nat) = ((b : Int) - t) := rfl
  rw [show (((b : Nat) : Int) - (t : Nat)).toNat = b - t by omega]
  refine congrArg R.ok (List.map_congr_left fun i _ => ?_)
  exact congrArg PyData.int (Int.natCast_add t i).symm
theorem len_flat {α β : Type} (f : α → List β) (m : Nat) : ∀ l : List α, (∀ x ∈ l, (f x).length ≤ m) → (l.flatMap f).length ≤ l.length * m
  | [], _ => by simp
  | x :: l, h => by
    rw [List.flatMap_cons, List.length_append, List.length_cons, Nat.succ_mul]
    have := h x List.mem_cons_self
    have := len_flat f m l fun y hy => h y (List.mem_cons_of_mem _ hy)
    omega
section
variable {t b l r n : Nat}
theorem row_ext {i : Nat} {a : List Ship} (hn : 1 ≤ n) (hn2 : n ≤ 200) (hl : l ≤ 200) (hr : r ≤ 200) (ha : a.length ≤ 100000) :
    q_rows_of_ships_1 (.int (l : Nat)) (.int (r : Nat)) (.int (n : Nat)) (.int (i : Nat)) (shL Ship.d a) = .next (shL Ship.d (a ++ (stepsL l r n).map fun (c : Nat) => ⟨((i : Nat) : Int), ((c : Nat) : Int), true, n⟩)) := by
  have rg := rng3_q (l := l) (r := r) hn (by omega) (by omega) (by omega)
  have sl := steps_len (a := l) (b := r) (n := n)
  have sd := Nat.div_le_self (r - l) n
  have g1 : gSubI (.sh (.int (r : Nat))) (.sh (.int (n : Nat))) = some (.sh (.int ((r : Nat) - (n : Nat)))) := rfl
  have g2 : gAdd (.sh (.int ((r : Nat) - (n : Nat)))) (.sh (.int 1)) = some (.sh (.int ((r : Nat) - (n : Nat) + 1))) := rfl
  have lc := lcR_map (f := fun x => Ev.R.ok (some (OV.sh (.tuple [.int (i : Nat), x, .str "along", .int (n : Nat)])))) (fun c : Nat => PyData.int ((c : Nat) : Int)) (fun c => OV.sh (Ship.d ⟨((i : Nat) : Int), ((c : Nat) : Int), true, n⟩)) (stepsL l r n) fun c _ => rfl
  have sz : szR (stepsL l r n).length (OV.lst ((stepsL l r n).map fun c => OV.sh (Ship.d ⟨((i : Nat) : Int), ((c : Nat) : Int), true, n⟩))) = .ok (shL Ship.d ((stepsL l r n).map fun (c : Nat) => ⟨((i : Nat) : Int), ((c : Nat) : Int), true, n⟩)) := by
    rw [szR_ok (by rw [sizeLine_eq]; omega)]
    unfold shL
    rw [List.map_map]
    rfl
  have ow : ownR "list" (shL Ship.d a) = .ok () := rfl
  have ex : mutR mExt (shL Ship.d a) [shL Ship.d ((stepsL l r n).map fun (c : Nat) => ⟨((i : Nat) : Int), ((c : Nat) : Int), true, n⟩)] = .ok (shL Ship.d (a ++ (stepsL l r n).map fun (c : Nat) => ⟨((i : Nat) : Int), ((c : Nat) : Int), true, n⟩), .sh .none) := by
    have := ext_shL (en := Ship.d) (a := a) (b := (stepsL l r n).map fun (c : Nat) => ⟨((i : Nat) : Int), ((c : Nat) : Int), true, n⟩) (by rw [List.length_map, sizeLine_eq]; omega)
    unfold mutR
    rw [this]
  generalize (shL Ship.d ((stepsL l r n).map fun (c : Nat) => ⟨((i : Nat) : Int), ((c : Nat) : Int), true, n⟩)) = E1 at *
  generalize (shL Ship.d (a ++ (stepsL l r n).map fun (c : Nat) => ⟨((i : Nat) : Int), ((c : Nat) : Int), true, n⟩)) = E2 at *
  clear sl sd ha
  unfold q_rows_of_ships_1
  get_elem_tactic_trivial
theorem col_ext {j : Nat} {a : List Ship} (hn : 1 ≤ n) (hn2 : n ≤ 200) (hl : t ≤ 200) (hr : b ≤ 200) (ha : a.length ≤ 100000) :
    q_columns_of_ships_1 (.int (t : Nat)) (.int (b : Nat)) (.int (n : Nat)) (.int (j : Nat)) (shL Ship.d a) = .next (shL Ship.d (a ++ (stepsL t b n).map fun (i : Nat) => ⟨((i : Nat) : Int), ((j : Nat) : Int), false, n⟩)) := by
  have rg := rng3_q (l := t) (r := b) hn (by omega) (by omega) (by omega)
  have sl := steps_len (a := t) (b := b) (n := n)
  have sd := Nat.div_le_self (b - t) n
  have g1 : gSubI (.sh (.int (b : Nat))) (.sh (.int (n : Nat))) = some (.sh (.int ((b : Nat) - (n : Nat)))) := rfl
  have g2 : gAdd (.sh (.int ((b : Nat) - (n : Nat)))) (.sh (.int 1)) = some (.sh (.int ((b : Nat) - (n : Nat) + 1))) := rfl
  have lc := lcR_map (f := fun x => Ev.R.ok (some (OV.sh (.tuple [x, .int (j : Nat), .str "down", .int (n : Nat)])))) (fun c : Nat => PyData.int ((c : Nat) : Int)) (fun c => OV.sh (Ship.d ⟨((c : Nat) : Int), ((j : Nat) : Int), false, n⟩)) (stepsL t b n) fun c _ => rfl
  have sz : szR (stepsL t b n).length (OV.lst ((stepsL t b n).map fun c => OV.sh (Ship.d ⟨((c : Nat) : Int), ((j : Nat) : Int), false, n⟩))) = .ok (shL Ship.d ((stepsL t b n).map fun (i : Nat) => ⟨((i : Nat) : Int), ((j : Nat) : Int), false, n⟩)) := by
    rw [szR_ok (by rw [sizeLine_eq]; omega)]
    unfold shL
    rw [List.map_map]
    rfl
  have ow : ownR "list" (shL Ship.d a) = .ok () := rfl
  have ex : mutR mExt (shL Ship.d a) [shL Ship.d ((stepsL t b n).map fun (i : Nat) => ⟨((i : Nat) : Int), ((j : Nat) : Int), false, n⟩)] = .ok (shL Ship.d (a ++ (stepsL t b n).map fun (i : Nat) => ⟨((i : Nat) : Int), ((j : Nat) : Int), false, n⟩), .sh .none) := by
    have := ext_shL (en := Ship.d) (a := a) (b := (stepsL t b n).map fun (i : Nat) => ⟨((i : Nat) : Int), ((j : Nat) : Int), false, n⟩) (by rw [List.length_map, sizeLine_eq]; omega)
    unfold mutR
    rw [this]
  generalize (shL Ship.d ((stepsL t b n).map fun (i : Nat) => ⟨((i : Nat) : Int), ((j : Nat) : Int), false, n⟩)) = E1 at *
  generalize (shL Ship.d (a ++ (stepsL t b n).map fun (i : Nat) => ⟨((i : Nat) : Int), ((j : Nat) : Int), false, n⟩)) = E2 at *
  clear sl sd ha
  unfold q_columns_of_ships_1
  get_elem_tactic_trivial
theorem rows_q (hn : 1 ≤ n) (hn2 : n ≤ 200) (ht : t ≤ 200) (hb : b ≤ 200) (hl : l ≤ 200) (hr : r ≤ 200) :
    q_rows_of_ships [.int (t : Nat), .int (b : Nat), .int (l : Nat), .int (r : Nat), .int (n : Nat)] = .ok (shL Ship.d (rowsS t b l r n)) := by
  have g : ∀ i, ((stepsL l r n).map fun (c : Nat) => (⟨((i : Nat) : Int), ((c : Nat) : Int), true, n⟩ : Ship)).length ≤ 200 := fun i => by
    rw [List.length_map, steps_len]
    exact Nat.le_trans (Nat.div_le_self _ _) (by omega)
  have lf := len_flat (fun i => (stepsL l r n).map fun (c : Nat) => (⟨((t + i : Nat) : Int), ((c : Nat) : Int), true, n⟩ : Ship)) 200 (List.range (b - t)) fun i _ => g (t + i)
  rw [List.length_range] at lf
  have lp : forO ((List.range (b - t)).map fun i => PyData.int ((t + i : Nat) : Int)) (fun x s => q_rows_of_ships_1 (.int (l : Nat)) (.int (r : Nat)) (.int (n : Nat)) x s) (.lst []) = .next (shL Ship.d (rowsS t b l r n)) :=
    forO_g0 (fun i => PyData.int ((t + i : Nat) : Int)) Ship.d (fun i => (stepsL l r n).map fun (c : Nat) => ⟨((t + i : Nat) : Int), ((c : Nat) : Int), true, n⟩) 100000 (List.range (b - t)) (by omega) fun i _ a ha => row_ext hn hn2 hl hr (by omega)
  have rg := up_q (t := t) (b := b) (by omega) (by omega)
  generalize shL Ship.d (rowsS t b l r n) = E at *
  clear lf g
  unfold q_rows_of_ships q_rows_of_ships_0
  get_elem_tactic_trivial
theorem cols_q (hn : 1 ≤ n) (hn2 : n ≤ 200) (ht : t ≤ 200) (hb : b ≤ 200) (hl : l ≤ 200) (hr : r ≤ 200) :
    q_columns_of_ships [.int (t : Nat), .int (b : Nat), .int (l : Nat), .int (r : Nat), .int (n : Nat)] = .ok (shL Ship.d (colsS t b l r n)) := by
  have eq0 : gEq false (.sh (.int (n : Nat))) (.sh (.int 1)) = some (.sh (.bool (decide (n = 1)))) := by
    rw [EqE.int.eq (by decide) fz_sh fz_sh, Bool.false_xor]
    congr 3
    exact decide_eq_decide.mpr (by omega)
  by_cases h1 : n = 1
  · subst h1
    have rq := rows_q (t := t) (b := b) (l := l) (r := r) (n := 1) (by omega) (by omega) ht hb hl hr
    rw [show colsS t b l r 1 = rowsS t b l r 1 from if_pos rfl]
    generalize shL Ship.d (rowsS t b l r 1) = E at *
    replace rq : q_rows_of_ships [.int (t : Nat), .int (b : Nat), .int (l : Nat), .int (r : Nat), .int 1] = .ok E := rq
    rw [decide_eq_true rfl] at eq0
    unfold q_columns_of_ships q_columns_of_ships_0
    get_elem_tactic_trivial
  · rw [decide_eq_false h1] at eq0
    rw [show colsS t b l r n = colsD t b l r n from if_neg h1]
    have g : ∀ j, ((stepsL t b n).map fun (i : Nat) => (⟨((i : Nat) : Int), ((j : Nat) : Int), false, n⟩ : Ship)).length ≤ 200 := fun j => by
      rw [List.length_map, steps_len]
      exact Nat.le_trans (Nat.div_le_self _ _) (by omega)
    have lf := len_flat (fun j => (stepsL t b n).map fun (i : Nat) => (⟨((i : Nat) : Int), ((l + j : Nat) : Int), false, n⟩ : Ship)) 200 (List.range (r - l)) fun j _ => g (l + j)
    rw [List.length_range] at lf
    have lp : forO ((List.range (r - l)).map fun j => PyData.int ((l + j : Nat) : Int)) (fun x s => q_columns_of_ships_1 (.int (t : Nat)) (.int (b : Nat)) (.int (n : Nat)) x s) (.lst []) = .next (shL Ship.d (colsD t b l r n)) :=
      forO_g0 (fun j => PyData.int ((l + j : Nat) : Int)) Ship.d (fun j => (stepsL t b n).map fun (i : Nat) => ⟨((i : Nat) : Int), ((l + j : Nat) : Int), false, n⟩) 100000 (List.range (r - l)) (by omega) fun j _ a ha => col_ext hn hn2 ht hb (by omega)
    have rg := up_q (t := l) (b := r) (by omega) (by omega)
    generalize shL Ship.d (colsD t b l r n) = E at *
    clear lf g
    unfold q_columns_of_ships q_columns_of_ships_0
    get_elem_tactic_trivial
end
def apartL (R C n : Nat) : List Ship :=
  if R < n then rowsS 0 R 0 C n else if C < n then colsS 0 R 0 C n else
  if R % n + C % n ≤ n then colsS 0 (R - R % n) 0 C n ++ rowsS (R - R % n) R 0 C n else
  colsS (n + R % n) R 0 C n ++ rowsS 0 (n + R % n) (n + C % n) C n ++ rowsS 0 (R % n) 0 n n ++ colsS 0 n n (n + C % n) n ++ rowsS n (n + R % n) (C % n) (n + C % n) n ++ colsS (R % n) (n + R % n) 0 (C % n) n
theorem addSS {A B : List Ship} (h : A.length + B.length ≤ 1000000) : gAdd (shL Ship.d A) (shL Ship.d B) = some (shL Ship.d (A ++ B)) := by
  have := gAdd_LL (xs := A.map Ship.d) (ys := B.map Ship.d) (by rw [List.length_map, List.length_map, sizeLine_eq]; omega)
  unfold gAdd at this ⊢
  rw [fz_shL, fz_shL]
  rw [fz_sh, fz_sh] at this
  rw [this]
  unfold shL
  rw [← List.map_append, List.map_map]
  rfl
theorem addFS {A B : List Ship} (h : A.length + B.length ≤ 1000000) : gAdd (.sh (fz (shL Ship.d A))) (shL Ship.d B) = some (shL Ship.d (A ++ B)) := by
  rw [← addSS h]
  unfold gAdd
  rw [fz_sh]
section
variable {t b l r n : Nat}
theorem rowsS_le (hb : b ≤ 200) (hr : r ≤ 200) : (rowsS t b l r n).length ≤ 40000 := by
  have lf := len_flat (fun i => (stepsL l r n).map fun (c : Nat) => (⟨((t + i : Nat) : Int), ((c : Nat) : Int), true, n⟩ : Ship)) 200 (List.range (b - t)) fun i _ => by
    rw [List.length_map, steps_len]
    exact Nat.le_trans (Nat.div_le_self _ _) (by omega)
  rw [List.length_range] at lf
  have : (b - t) * 200 ≤ 200 * 200 := Nat.mul_le_mul (by omega) (Nat.le_refl _)
  unfold rowsS
  omega
theorem colsS_le (hb : b ≤ 200) (hr : r ≤ 200) : (colsS t b l r n).length ≤ 40000 := by
  unfold colsS
  by_cases h : n = 1
  · rw [if_pos h]; exact rowsS_le hb hr
  · rw [if_neg h]
    have lf := len_flat (fun j => (stepsL t b n).map fun (i : Nat) => (⟨((i : Nat) : Int), ((l + j : Nat) : Int), false, n⟩ : Ship)) 200 (List.range (r - l)) fun j _ => by
      rw [List.length_map, steps_len]
      exact Nat.le_trans (Nat.div_le_self _ _) (by omega)
    rw [List.length_range] at lf
    have : (r - l) * 200 ≤ 200 * 200 := Nat.mul_le_mul (by omega) (Nat.le_refl _)
    unfold colsD
    omega
end
section
variable {R C n : Nat}
theorem apart_q (hn : 1 ≤ n) (hn2 : n ≤ 60) (hR : R ≤ 60) (hC : C ≤ 60) : q_apart_ships [.int (R : Nat), .int (C : Nat), .int (n : Nat)] = .ok (shL Ship.d (apartL R C n)) := by
  have g1 : gGt (.sh (.int (n : Nat))) (.sh (.int (R : Nat))) = some (.sh (.bool (decide (R < n)))) := by
    rw [show gGt (.sh (.int (n : Nat))) (.sh (.int (R : Nat))) = some (.sh (.bool (decide (((n : Nat) : Int) > ((R : Nat) : Int))))) from rfl]
    congr 3
    exact decide_eq_decide.mpr (by omega)
  have g2 : gGt (.sh (.int (n : Nat))) (.sh (.int (C : Nat))) = some (.sh (.bool (decide (C < n)))) := by
    rw [show gGt (.sh (.int (n : Nat))) (.sh (.int (C : Nat))) = some (.sh (.bool (decide (((n : Nat) : Int) > ((C : Nat) : Int))))) from rfl]
    congr 3
    exact decide_eq_decide.mpr (by omega)
  have rq := fun t b l r ht hb hl hr => rows_q (t := t) (b := b) (l := l) (r := r) hn (by omega) ht hb hl hr
  have cq := fun t b l r ht hb hl hr => cols_q (t := t) (b := b) (l := l) (r := r) hn (by omega) ht hb hl hr
  by_cases c1 : R < n
  · rw [decide_eq_true c1] at g1
    have q := rq 0 R 0 C (by omega) (by omega) (by omega) (by omega)
    rw [show apartL R C n = rowsS 0 R 0 C n from if_pos c1]
    generalize shL Ship.d (rowsS 0 R 0 C n) = E at *
    replace q : q_rows_of_ships [.int 0, .int (R : Nat), .int 0, .int (C : Nat), .int (n : Nat)] = .ok E := q
    clear rq cq
    unfold q_apart_ships q_apart_ships_0
    get_elem_tactic_trivial
  rw [decide_eq_false c1] at g1
  by_cases c2 : C < n
  · rw [decide_eq_true c2] at g2
    have q := cq 0 R 0 C (by omega) (by omega) (by omega) (by omega)
    rw [show apartL R C n = colsS 0 R 0 C n by unfold apartL; rw [if_neg c1, if_pos c2]]
    generalize shL Ship.d (colsS 0 R 0 C n) = E at *
    replace q : q_columns_of_ships [.int 0, .int (R : Nat), .int 0, .int (C : Nat), .int (n : Nat)] = .ok E := q
    clear rq cq
    unfold q_apart_ships q_apart_ships_0
    get_elem_tactic_trivial
  rw [decide_eq_false c2] at g2
  have gm : ∀ x : Nat, gModI (.sh (.int (x : Nat))) (.sh (.int (n : Nat))) = some (.sh (.int ((x % n : Nat) : Int))) := fun x => gII_ok (decide_eq_true (by omega))
  have gR := gm R
  have gC := gm C
  clear gm
  have m1 := Nat.mod_lt R (show 0 < n from hn)
  have m2 := Nat.mod_lt C (show 0 < n from hn)
  have m3 := Nat.mod_le R n
  have a0 : gAdd (.sh (.int ((R % n : Nat) : Int))) (.sh (.int ((C % n : Nat) : Int))) = some (.sh (.int ((R % n + C % n : Nat) : Int))) := rfl
  have gl : gLe (.sh (.int ((R % n + C % n : Nat) : Int))) (.sh (.int (n : Nat))) = some (.sh (.bool (decide (R % n + C % n ≤ n)))) := by
    rw [show gLe (.sh (.int ((R % n + C % n : Nat) : Int))) (.sh (.int (n : Nat))) = some (.sh (.bool (decide (((R % n + C % n : Nat) : Int) ≤ ((n : Nat) : Int))))) from rfl]
    congr 3
    exact decide_eq_decide.mpr (by omega)
  have sR : gSubI (.sh (.int (R : Nat))) (.sh (.int ((R % n : Nat) : Int))) = some (.sh (.int ((R - R % n : Nat) : Int))) := by
    rw [show gSubI (.sh (.int (R : Nat))) (.sh (.int ((R % n : Nat) : Int))) = some (.sh (.int (((R : Nat) : Int) - ((R % n : Nat) : Int)))) from rfl]
    congr 3
    omega
  have aR : gAdd (.sh (.int (n : Nat))) (.sh (.int ((R % n : Nat) : Int))) = some (.sh (.int ((n + R % n : Nat) : Int))) := rfl
  have aC : gAdd (.sh (.int (n : Nat))) (.sh (.int ((C % n : Nat) : Int))) = some (.sh (.int ((n + C % n : Nat) : Int))) := rfl
  have rl := fun t b l r (hb : b ≤ 200) (hr : r ≤ 200) => rowsS_le (t := t) (b := b) (l := l) (r := r) (n := n) hb hr
  have cl := fun t b l r (hb : b ≤ 200) (hr : r ≤ 200) => colsS_le (t := t) (b := b) (l := l) (r := r) (n := n) hb hr
  by_cases c3 : R % n + C % n ≤ n
  · rw [decide_eq_true c3] at gl
    rw [show apartL R C n = colsS 0 (R - R % n) 0 C n ++ rowsS (R - R % n) R 0 C n by unfold apartL; rw [if_neg c1, if_neg c2, if_pos c3]]
    have q1 : q_columns_of_ships [.int 0, .int ((R - R % n : Nat) : Int), .int 0, .int (C : Nat), .int (n : Nat)] = _ := cq 0 (R - R % n) 0 C (by omega) (by omega) (by omega) (by omega)
    have q2 : q_rows_of_ships [.int ((R - R % n : Nat) : Int), .int (R : Nat), .int 0, .int (C : Nat), .int (n : Nat)] = _ := rq (R - R % n) R 0 C (by omega) (by omega) (by omega) (by omega)
    have ad := addFS (A := colsS 0 (R - R % n) 0 C n) (B := rowsS (R - R % n) R 0 C n) (by
      have := cl 0 (R - R % n) 0 C (by omega) (by omega)
      have := rl (R - R % n) R 0 C (by omega) (by omega)
      omega)
    generalize shL Ship.d (colsS 0 (R - R % n) 0 C n ++ rowsS (R - R % n) R 0 C n) = E3 at *
    generalize shL Ship.d (colsS 0 (R - R % n) 0 C n) = E1 at *
    generalize shL Ship.d (rowsS (R - R % n) R 0 C n) = E2 at *
    clear rq cq rl cl m1 m2 m3
    unfold q_apart_ships q_apart_ships_0
    get_elem_tactic_trivial
  · rw [decide_eq_false c3] at gl
    rw [show apartL R C n = colsS (n + R % n) R 0 C n ++ rowsS 0 (n + R % n) (n + C % n) C n ++ rowsS 0 (R % n) 0 n n ++ colsS 0 n n (n + C % n) n ++ rowsS n (n + R % n) (C % n) (n + C % n) n ++ colsS (R % n) (n + R % n) 0 (C % n) n by unfold apartL; rw [if_neg c1, if_neg c2, if_neg c3]]
    have q1 : q_columns_of_ships [.int ((n + R % n : Nat) : Int), .int (R : Nat), .int 0, .int (C : Nat), .int (n : Nat)] = _ := cq (n + R % n) R 0 C (by omega) (by omega) (by omega) (by omega)
    have q2 : q_rows_of_ships [.int 0, .int ((n + R % n : Nat) : Int), .int ((n + C % n : Nat) : Int), .int (C : Nat), .int (n : Nat)] = _ := rq 0 (n + R % n) (n + C % n) C (by omega) (by omega) (by omega) (by omega)
    have q3 : q_rows_of_ships [.int 0, .int ((R % n : Nat) : Int), .int 0, .int (n : Nat), .int (n : Nat)] = _ := rq 0 (R % n) 0 n (by omega) (by omega) (by omega) (by omega)
    have q4 : q_columns_of_ships [.int 0, .int (n : Nat), .int (n : Nat), .int ((n + C % n : Nat) : Int), .int (n : Nat)] = _ := cq 0 n n (n + C % n) (by omega) (by omega) (by omega) (by omega)
    have q5 : q_rows_of_ships [.int (n : Nat), .int ((n + R % n : Nat) : Int), .int ((C % n : Nat) : Int), .int ((n + C % n : Nat) : Int), .int (n : Nat)] = _ := rq n (n + R % n) (C % n) (n + C % n) (by omega) (by omega) (by omega) (by omega)
    have q6 : q_columns_of_ships [.int ((R % n : Nat) : Int), .int ((n + R % n : Nat) : Int), .int 0, .int ((C % n : Nat) : Int), .int (n : Nat)] = _ := cq (R % n) (n + R % n) 0 (C % n) (by omega) (by omega) (by omega) (by omega)
    have l1 := cl (n + R % n) R 0 C (by omega) (by omega)
    have l2 := rl 0 (n + R % n) (n + C % n) C (by omega) (by omega)
    have l3 := rl 0 (R % n) 0 n (by omega) (by omega)
    have l4 := cl 0 n n (n + C % n) (by omega) (by omega)
    have l5 := rl n (n + R % n) (C % n) (n + C % n) (by omega) (by omega)
    have l6 := cl (R % n) (n + R % n) 0 (C % n) (by omega) (by omega)
    generalize colsS (n + R % n) R 0 C n = S1 at *
    generalize rowsS 0 (n + R % n) (n + C % n) C n = S2 at *
    generalize rowsS 0 (R % n) 0 n n = S3 at *
    generalize colsS 0 n n (n + C % n) n = S4 at *
    generalize rowsS n (n + R % n) (C % n) (n + C % n) n = S5 at *
    generalize colsS (R % n) (n + R % n) 0 (C % n) n = S6 at *
    have d1 := addSS (A := S1) (B := S2) (by omega)
    have d2 := addFS (A := S1 ++ S2) (B := S3) (by rw [List.length_append]; omega)
    have d3 := addFS (A := S1 ++ S2 ++ S3) (B := S4) (by rw [List.length_append, List.length_append]; omega)
    have d4 := addFS (A := S1 ++ S2 ++ S3 ++ S4) (B := S5) (by rw [List.length_append, List.length_append, List.length_append]; omega)
    have d5 := addFS (A := S1 ++ S2 ++ S3 ++ S4 ++ S5) (B := S6) (by rw [List.length_append, List.length_append, List.length_append, List.length_append]; omega)
    generalize shL Ship.d (S1 ++ S2 ++ S3 ++ S4 ++ S5 ++ S6) = E6 at *
    generalize shL Ship.d (S1 ++ S2 ++ S3 ++ S4 ++ S5) = E5 at *
    generalize shL Ship.d (S1 ++ S2 ++ S3 ++ S4) = E4 at *
    generalize shL Ship.d (S1 ++ S2 ++ S3) = E3 at *
    generalize shL Ship.d (S1 ++ S2) = E2 at *
    generalize shL Ship.d S1 = F1 at *
    generalize shL Ship.d S2 = F2 at *
    generalize shL Ship.d S3 = F3 at *
    generalize shL Ship.d S4 = F4 at *
    generalize shL Ship.d S5 = F5 at *
    generalize shL Ship.d S6 = F6 at *
    clear rq cq rl cl m1 m2 m3 l1 l2 l3 l4 l5 l6
    unfold q_apart_ships q_apart_ships_0
    get_elem_tactic_trivial
end
theorem flat_len {α β : Type} (f : α → List β) (m : Nat) : ∀ l : List α, (∀ x ∈ l, (f x).length = m) → (l.flatMap f).length = l.length * m
  | [], _ => by simp
  | x :: l, h => by
    rw [List.flatMap_cons, List.length_append, List.length_cons, Nat.succ_mul, h x List.mem_cons_self, flat_len f m l fun y hy => h y (List.mem_cons_of_mem _ hy)]
    omega
theorem rowsS_len {t b l r n : Nat} : (rowsS t b l r n).length = (b - t) * ((r - l) / n) := by
  unfold rowsS
  rw [flat_len _ ((r - l) / n) _ fun i _ => by rw [List.length_map, steps_len], List.length_range]
theorem colsS_len {t b l r n : Nat} : (colsS t b l r n).length = (r - l) * ((b - t) / n) := by
  unfold colsS
  by_cases h : n = 1
  · subst h
    rw [if_pos rfl, rowsS_len, Nat.div_one, Nat.div_one, Nat.mul_comm]
  · rw [if_neg h]
    unfold colsD
    rw [flat_len _ ((b - t) / n) _ fun i _ => by rw [List.length_map, steps_len], List.length_range]
theorem apart_len {R C n : Nat} (hn : 1 ≤ n) : (apartL R C n).length = lN R C n := by
  unfold apartL lN
  by_cases c1 : R < n
  · rw [if_pos c1, if_pos c1, rowsS_len]
    by_cases c2 : C < n
    · rw [if_pos c2, Nat.sub_zero, Nat.sub_zero, Nat.div_eq_of_lt c2, Nat.mul_zero]
    · rw [if_neg c2, Nat.sub_zero, Nat.sub_zero]
  rw [if_neg c1, if_neg c1]
  by_cases c2 : C < n
  · rw [if_pos c2, if_pos c2, colsS_len, Nat.sub_zero, Nat.sub_zero]
  rw [if_neg c2, if_neg c2]
  unfold lnF
  have e1 := Nat.div_add_mod R n
  have e2 := Nat.div_add_mod C n
  have m1 := Nat.mod_lt R (show 0 < n from hn)
  have m2 := Nat.mod_lt C (show 0 < n from hn)
  have p1 : 1 ≤ R / n := (Nat.one_le_div_iff hn).mpr (by omega)
  have p2 : 1 ≤ C / n := (Nat.one_le_div_iff hn).mpr (by omega)
  generalize R / n = q at *
  generalize R % n = a at *
  generalize C / n = p at *
  generalize C % n = b at *
  obtain ⟨q, rfl⟩ : ∃ k, q = k + 1 := ⟨q - 1, by omega⟩
  obtain ⟨p, rfl⟩ : ∃ k, p = k + 1 := ⟨p - 1, by omega⟩
  have dq : ∀ k : Nat, n * k / n = k := fun k => Nat.mul_div_cancel_left k hn
  have f1 : ∀ x y : Nat, n * (x + 1) + y - y = n * (x + 1) := fun x y => by omega
  by_cases c3 : a + b ≤ n
  · rw [if_pos c3, List.length_append, colsS_len, rowsS_len]
    have g1 : R - a - 0 = n * (q + 1) := by omega
    have g2 : R - (R - a) = a := by omega
    have g3 : (C - 0) / n = p + 1 := by
      rw [Nat.sub_zero, ← e2, Nat.mul_add_div hn, Nat.div_eq_of_lt m2, Nat.add_zero]
    rw [g1, g2, g3, dq, Nat.sub_zero, ← e1, ← e2]
    have z : a + b - n = 0 := by omega
    rw [z]
    simp only [Nat.add_mul, Nat.mul_add, Nat.mul_one, Nat.one_mul, Nat.add_zero]
    have k1 : n * p * q = n * q * p := by rw [Nat.mul_assoc, Nat.mul_comm p q, ← Nat.mul_assoc]
    have k2 : q * b = b * q := Nat.mul_comm _ _
    rw [k1, k2]
    omega
  · rw [if_neg c3]
    simp only [List.length_append, colsS_len, rowsS_len]
    have g1 : (R - (n + a)) / n = q := by
      have : R - (n + a) = n * q := by rw [← e1, Nat.mul_add, Nat.mul_one]; omega
      rw [this, dq]
    have g2 : (C - (n + b)) / n = p := by
      have : C - (n + b) = n * p := by rw [← e2, Nat.mul_add, Nat.mul_one]; omega
      rw [this, dq]
    have g3 : (n - 0) / n = 1 := by rw [Nat.sub_zero, Nat.div_self hn]
    have g4 : (n + b - b) / n = 1 := by rw [Nat.add_sub_cancel, Nat.div_self hn]
    have g5 : (n + a - a) / n = 1 := by rw [Nat.add_sub_cancel, Nat.div_self hn]
    rw [g1, g2, g3, g4, g5]
    have h1 : n + a - 0 = n + a := by omega
    have h2 : a - 0 = a := by omega
    have h3 : n + b - n = b := by omega
    have h4 : n + a - n = a := by omega
    have h5 : b - 0 = b := by omega
    rw [h1, h2, h3, h4, h5, Nat.sub_zero, ← e1, ← e2]
    simp only [Nat.add_mul, Nat.mul_add, Nat.mul_one, Nat.one_mul]
    have k1 : n * p * q = n * q * p := by rw [Nat.mul_assoc, Nat.mul_comm p q, ← Nat.mul_assoc]
    have k2 : q * b = b * q := Nat.mul_comm _ _
    rw [k1, k2]
    omega
theorem mem_row {x y : Int} {n : Nat} {p : Cell} : p ∈ (⟨x, y, true, n⟩ : Ship).cells ↔ ∃ k : Nat, k < n ∧ p = (x, y + (k : Nat)) := by
  unfold Ship.cells
  simp only [if_true, List.mem_map, List.mem_range]
  constructor
  · rintro ⟨k, h, e⟩; exact ⟨k, h, e.symm⟩
  · rintro ⟨k, h, e⟩; exact ⟨k, h, e.symm⟩
theorem mem_col {x y : Int} {n : Nat} {p : Cell} : p ∈ (⟨x, y, false, n⟩ : Ship).cells ↔ ∃ k : Nat, k < n ∧ p = (x + (k : Nat), y) := by
  unfold Ship.cells
  simp only [Bool.false_eq_true, if_false, List.mem_map, List.mem_range]
  constructor
  · rintro ⟨k, h, e⟩; exact ⟨k, h, e.symm⟩
  · rintro ⟨k, h, e⟩; exact ⟨k, h, e.symm⟩
theorem mem_steps {a b n c : Nat} : c ∈ stepsL a b n ↔ ∃ k, k < (b - a) / n ∧ c = a + k * n := by
  unfold stepsL
  simp only [List.mem_map, List.mem_range]
  constructor
  · rintro ⟨k, h, e⟩; exact ⟨k, h, e.symm⟩
  · rintro ⟨k, h, e⟩; exact ⟨k, h, e.symm⟩
theorem step_in {a b n k : Nat} (h : k < (b - a) / n) : a + k * n + n ≤ b := by
  have h1 : (k + 1) * n ≤ (b - a) / n * n := Nat.mul_le_mul_right n h
  have h2 := Nat.div_mul_le_self (b - a) n
  rw [Nat.succ_mul] at h1
  have h3 : n ≤ b - a := by
    have := Nat.le_trans h1 h2
    omega
  by_cases z : n = 0
  · subst z; simp at h
  · omega
structure In (L : List Ship) (n t b l r : Nat) : Prop where
  n : ∀ s ∈ L, s.n = n ∧ (n = 1 → s.al = true)
  c : ∀ s ∈ L, ∀ p ∈ s.cells, (t : Int) ≤ p.1 ∧ p.1 < b ∧ (l : Int) ≤ p.2 ∧ p.2 < r
theorem In.mem {L : List Ship} {n t b l r : Nat} (h : In L n t b l r) {p : Cell} (hp : p ∈ L.flatMap Ship.cells) : (t : Int) ≤ p.1 ∧ p.1 < b ∧ (l : Int) ≤ p.2 ∧ p.2 < r := by
  obtain ⟨s, hs, hp⟩ := List.mem_flatMap.mp hp
  exact h.c s hs p hp
theorem mem_rowsS {t b l r n : Nat} {s : Ship} : s ∈ rowsS t b l r n ↔ ∃ i k : Nat, i < b - t ∧ k < (r - l) / n ∧ s = ⟨((t + i : Nat) : Int), ((l + k * n : Nat) : Int), true, n⟩ := by
  unfold rowsS
  simp only [List.mem_flatMap, List.mem_range, List.mem_map, mem_steps]
  constructor
  · rintro ⟨i, hi, c, ⟨k, hk, rfl⟩, rfl⟩; exact ⟨i, k, hi, hk, rfl⟩
  · rintro ⟨i, k, hi, hk, rfl⟩; exact ⟨i, hi, _, ⟨k, hk, rfl⟩, rfl⟩
theorem mem_colsD {t b l r n : Nat} {s : Ship} : s ∈ colsD t b l r n ↔ ∃ j k : Nat, j < r - l ∧ k < (b - t) / n ∧ s = ⟨((t + k * n : Nat) : Int), ((l + j : Nat) : Int), false, n⟩ := by
  unfold colsD
  simp only [List.mem_flatMap, List.mem_range, List.mem_map, mem_steps]
  constructor
  · rintro ⟨i, hi, c, ⟨k, hk, rfl⟩, rfl⟩; exact ⟨i, k, hi, hk, rfl⟩
  · rintro ⟨i, k, hi, hk, rfl⟩; exact ⟨i, hi, _, ⟨k, hk, rfl⟩, rfl⟩
theorem rows_in {t b l r n : Nat} : In (rowsS t b l r n) n t b l r where
  n s hs := by
    obtain ⟨i, k, _, _, rfl⟩ := mem_rowsS.mp hs
    exact ⟨rfl, fun _ => rfl⟩
  c s hs p hp := by
    obtain ⟨i, k, hi, hk, rfl⟩ := mem_rowsS.mp hs
    obtain ⟨j, hj, rfl⟩ := mem_row.mp hp
    have := step_in hk
    refine ⟨?_, ?_, ?_, ?_⟩ <;> simp only <;> omega
theorem colsD_in {t b l r n : Nat} (h : n ≠ 1) : In (colsD t b l r n) n t b l r where
  n s hs := by
    obtain ⟨i, k, _, _, rfl⟩ := mem_colsD.mp hs
    exact ⟨rfl, fun z => (h z).elim⟩
  c s hs p hp := by
    obtain ⟨i, k, hi, hk, rfl⟩ := mem_colsD.mp hs
    obtain ⟨j, hj, rfl⟩ := mem_col.mp hp
    have := step_in hk
    refine ⟨?_, ?_, ?_, ?_⟩ <;> simp only <;> omega
theorem cols_in {t b l r n : Nat} : In (colsS t b l r n) n t b l r := by
  unfold colsS
  by_cases h : n = 1
  · subst h; rw [if_pos rfl]; exact rows_in
  · rw [if_neg h]; exact colsD_in h
abbrev Nd (L : List Ship) : Prop := (L.flatMap Ship.cells).Nodup
theorem cells_nd (s : Ship) : s.cells.Nodup := by
  unfold Ship.cells
  rw [List.nodup_iff_pairwise_ne, List.pairwise_map]
  refine (pair_range s.n).imp fun {a b} h e => ?_
  by_cases c : s.al = true
  · rw [if_pos c, if_pos c] at e; injection e with _ e; omega
  · rw [if_neg c, if_neg c] at e; injection e with e _; omega
theorem rows_nd {t b l r n : Nat} : Nd (rowsS t b l r n) := by
  unfold Nd rowsS stepsL
  rw [List.nodup_iff_pairwise_ne, List.flatMap_assoc, List.pairwise_flatMap]
  refine ⟨fun i _ => ?_, (pair_range (b - t)).imp fun {i j} h x hx y hy e => ?_⟩
  · rw [List.map_map, List.flatMap_map, List.pairwise_flatMap]
    refine ⟨fun k _ => (List.nodup_iff_pairwise_ne.mp (cells_nd _)), (pair_range ((r - l) / n)).imp fun {a b} h x hx y hy e => ?_⟩
    obtain ⟨u, hu, rfl⟩ := mem_row.mp hx
    obtain ⟨w, hw, rfl⟩ := mem_row.mp hy
    injection e with _ e
    have e : ((l + a * n : Nat) : Int) + (u : Nat) = ((l + b * n : Nat) : Int) + (w : Nat) := e
    have : (a + 1) * n ≤ b * n := Nat.mul_le_mul_right n h
    rw [Nat.succ_mul] at this
    omega
  · obtain ⟨s, hs, hx⟩ := List.mem_flatMap.mp hx
    obtain ⟨s', hs', hy⟩ := List.mem_flatMap.mp hy
    obtain ⟨c, _, rfl⟩ := List.mem_map.mp hs
    obtain ⟨c', _, rfl⟩ := List.mem_map.mp hs'
    obtain ⟨u, hu, rfl⟩ := mem_row.mp hx
    obtain ⟨w, hw, rfl⟩ := mem_row.mp hy
    injection e with e _
    omega
theorem colsD_nd {t b l r n : Nat} : Nd (colsD t b l r n) := by
  unfold Nd colsD stepsL
  rw [List.nodup_iff_pairwise_ne, List.flatMap_assoc, List.pairwise_flatMap]
  refine ⟨fun i _ => ?_, (pair_range (r - l)).imp fun {i j} h x hx y hy e => ?_⟩
  · rw [List.map_map, List.flatMap_map, List.pairwise_flatMap]
    refine ⟨fun k _ => (List.nodup_iff_pairwise_ne.mp (cells_nd _)), (pair_range ((b - t) / n)).imp fun {a b} h x hx y hy e => ?_⟩
    obtain ⟨u, hu, rfl⟩ := mem_col.mp hx
    obtain ⟨w, hw, rfl⟩ := mem_col.mp hy
    injection e with e _
    have e : ((t + a * n : Nat) : Int) + (u : Nat) = ((t + b * n : Nat) : Int) + (w : Nat) := e
    have : (a + 1) * n ≤ b * n := Nat.mul_le_mul_right n h
    rw [Nat.succ_mul] at this
    omega
  · obtain ⟨s, hs, hx⟩ := List.mem_flatMap.mp hx
    obtain ⟨s', hs', hy⟩ := List.mem_flatMap.mp hy
    obtain ⟨c, _, rfl⟩ := List.mem_map.mp hs
    obtain ⟨c', _, rfl⟩ := List.mem_map.mp hs'
    obtain ⟨u, hu, rfl⟩ := mem_col.mp hx
    obtain ⟨w, hw, rfl⟩ := mem_col.mp hy
    injection e with _ e
    omega
theorem cols_nd {t b l r n : Nat} : Nd (colsS t b l r n) := by
  unfold colsS
  by_cases h : n = 1
  · rw [if_pos h]; exact rows_nd
  · rw [if_neg h]; exact colsD_nd
theorem Nd.app {A B : List Ship} (a : Nd A) (b : Nd B) (h : ∀ x ∈ A.flatMap Ship.cells, ∀ y ∈ B.flatMap Ship.cells, x ≠ y) : Nd (A ++ B) := by
  unfold Nd
  rw [List.flatMap_append, List.nodup_append]
  exact ⟨a, b, h⟩
theorem In.app {A B : List Ship} {n t b l r : Nat} (a : In A n t b l r) (c : In B n t b l r) : In (A ++ B) n t b l r where
  n s hs := (List.mem_append.mp hs).elim (a.n s) (c.n s)
  c s hs := (List.mem_append.mp hs).elim (a.c s) (c.c s)
theorem In.wide {A : List Ship} {n t b l r t' b' l' r' : Nat} (a : In A n t b l r) (h1 : t' ≤ t) (h2 : b ≤ b') (h3 : l' ≤ l) (h4 : r ≤ r') : In A n t' b' l' r' where
  n := a.n
  c s hs p hp := by
    have := a.c s hs p hp
    omega
theorem apart_in {R C n : Nat} (hn : 1 ≤ n) : In (apartL R C n) n 0 R 0 C := by
  unfold apartL
  by_cases c1 : R < n
  · rw [if_pos c1]; exact rows_in
  rw [if_neg c1]
  by_cases c2 : C < n
  · rw [if_pos c2]; exact cols_in
  rw [if_neg c2]
  have m1 := Nat.mod_lt R (show 0 < n from hn)
  have m2 := Nat.mod_lt C (show 0 < n from hn)
  have m3 := Nat.mod_le R n
  have e1 := Nat.div_add_mod R n
  have e2 := Nat.div_add_mod C n
  have p1 : n * 1 ≤ n * (R / n) := Nat.mul_le_mul_left n ((Nat.one_le_div_iff hn).mpr (by omega))
  have p2 : n * 1 ≤ n * (C / n) := Nat.mul_le_mul_left n ((Nat.one_le_div_iff hn).mpr (by omega))
  by_cases c3 : R % n + C % n ≤ n
  · rw [if_pos c3]
    exact (cols_in.wide (by omega) (by omega) (by omega) (by omega)).app (rows_in.wide (by omega) (by omega) (by omega) (by omega))
  · rw [if_neg c3]
    exact (((((cols_in.wide (by omega) (by omega) (by omega) (by omega)).app (rows_in.wide (by omega) (by omega) (by omega) (by omega))).app (rows_in.wide (by omega) (by omega) (by omega) (by omega))).app (cols_in.wide (by omega) (by omega) (by omega) (by omega))).app (rows_in.wide (by omega) (by omega) (by omega) (by omega))).app (cols_in.wide (by omega) (by omega) (by omega) (by omega))
theorem apart_nd {R C n : Nat} (hn : 1 ≤ n) : Nd (apartL R C n) := by
  unfold apartL
  by_cases c1 : R < n
  · rw [if_pos c1]; exact rows_nd
  rw [if_neg c1]
  by_cases c2 : C < n
  · rw [if_pos c2]; exact cols_nd
  rw [if_neg c2]
  have m1 := Nat.mod_lt R (show 0 < n from hn)
  have m2 := Nat.mod_lt C (show 0 < n from hn)
  have m3 := Nat.mod_le R n
  by_cases c3 : R % n + C % n ≤ n
  · rw [if_pos c3]
    refine cols_nd.app rows_nd fun x hx y hy e => ?_
    have h1 := cols_in.mem hx
    have h2 := rows_in.mem hy
    rw [e] at h1
    omega
  · rw [if_neg c3]
    refine ((((cols_nd.app rows_nd ?_).app rows_nd ?_).app cols_nd ?_).app rows_nd ?_).app cols_nd ?_
    · intro x hx y hy e
      have h1 := cols_in.mem hx
      have h2 := rows_in.mem hy
      rw [e] at h1
      omega
    · intro x hx y hy e
      have h2 := rows_in.mem hy
      rw [List.flatMap_append] at hx
      rcases List.mem_append.mp hx with hx | hx
      · have h1 := cols_in.mem hx
        rw [e] at h1
        omega
      · have h1 := rows_in.mem hx
        rw [e] at h1
        omega
    · intro x hx y hy e
      have h2 := cols_in.mem hy
      simp only [List.flatMap_append, List.mem_append] at hx
      rcases hx with (hx | hx) | hx
      · have h1 := cols_in.mem hx
        rw [e] at h1
        omega
      · have h1 := rows_in.mem hx
        rw [e] at h1
        omega
      · have h1 := rows_in.mem hx
        rw [e] at h1
        omega
    · intro x hx y hy e
      have h2 := rows_in.mem hy
      simp only [List.flatMap_append, List.mem_append] at hx
      rcases hx with ((hx | hx) | hx) | hx
      · have h1 := cols_in.mem hx
        rw [e] at h1
        omega
      · have h1 := rows_in.mem hx
        rw [e] at h1
        omega
      · have h1 := rows_in.mem hx
        rw [e] at h1
        omega
      · have h1 := cols_in.mem hx
        rw [e] at h1
        omega
    · intro x hx y hy e
      have h2 := cols_in.mem hy
      simp only [List.flatMap_append, List.mem_append] at hx
      rcases hx with (((hx | hx) | hx) | hx) | hx
      · have h1 := cols_in.mem hx
        rw [e] at h1
        omega
      · have h1 := rows_in.mem hx
        rw [e] at h1
        omega
      · have h1 := rows_in.mem hx
        rw [e] at h1
        omega
      · have h1 := cols_in.mem hx
        rw [e] at h1
        omega
      · have h1 := rows_in.mem hx
        rw [e] at h1
        omega
theorem res {a n q : Nat} (h : q < n) : ∃ k, k < n ∧ (a + k) % n = q := by
  have m := Nat.mod_lt a (show 0 < n by omega)
  by_cases c : a % n ≤ q
  · refine ⟨q - a % n, by omega, ?_⟩
    rw [← Nat.mod_add_mod, show a % n + (q - a % n) = q by omega, Nat.mod_eq_of_lt h]
  · refine ⟨q + n - a % n, by omega, ?_⟩
    rw [← Nat.mod_add_mod, show a % n + (q + n - a % n) = q + n by omega, Nat.add_mod_right, Nat.mod_eq_of_lt h]
def cLt (p q : Cell) : Prop := p.1 < q.1 ∨ (p.1 = q.1 ∧ p.2 < q.2)
theorem netP_lt {pl : Nat → Nat → Nat} {n C R k : Nat} : (netP pl n C R k).Pairwise cLt := by
  unfold netP
  rw [List.pairwise_flatMap]
  refine ⟨fun r _ => ?_, (pair_range R).imp fun {a b} h x hx y hy => ?_⟩
  · unfold rowK
    rw [List.pairwise_map]
    exact ((pair_range C).filter _).imp fun {a b} h => .inr ⟨rfl, by simp only; omega⟩
  · obtain ⟨c, _, _, rfl⟩ := mem_rowK.mp hx
    obtain ⟨d, _, _, rfl⟩ := mem_rowK.mp hy
    exact .inl (by simp only; omega)
theorem netR_lt {R C n : Nat} : (netR R C n).Pairwise cLt := by
  unfold netR
  by_cases h : R < n ∧ C < n
  · rw [if_pos h]; exact .nil
  rw [if_neg h]
  by_cases h : R < n ∨ C < n
  · rw [if_pos h]; exact netP_lt
  · rw [if_neg h]; exact netP_lt
theorem netR_nd {R C n : Nat} : (netR R C n).Nodup := by
  rw [List.nodup_iff_pairwise_ne]
  refine netR_lt.imp fun {p q} h e => ?_
  subst e
  rcases h with h | h <;> omega
theorem netR_sorted {R C n : Nat} (h : (netR R C n).length ≤ 100000) : dSorted (.list ((netR R C n).map cD)) = some (shL cD (netR R C n)) :=
  sort_q EqE.cell (by decide) (fun x _ y _ => cell_alike x y) (.inl fun _ => rfl) (by rw [sizeLine_eq]; omega) (netR_lt.imp fun {p q} h => by
    rw [cell_lt, decide_eq_false_iff_not]
    intro z
    unfold cLt at h
    omega)
theorem netR_on {R C n : Nat} (hn : 1 ≤ n) {p : Cell} (hp : p ∈ netR R C n) : onB R C p = true := by
  by_cases h : R < n ∧ C < n
  · unfold netR at hp; rw [if_pos h] at hp; cases hp
  obtain ⟨k, _, _, hm⟩ := mem_netR hn h
  obtain ⟨r, c, hr, hc, _, rfl⟩ := (hm p).mp hp
  unfold onB
  simp
  omega
theorem hit_of {cells : List Cell} {s : Ship} {p : Cell} (h1 : p ∈ s.cells) (h2 : p ∈ cells) : hitB cells s = true := by
  unfold hitB
  exact List.any_eq_true.mpr ⟨p, h1, by simpa using h2⟩
theorem net_ok {R C n : Nat} (hn : 1 ≤ n) : netB R C n (netR R C n) = true := by
  unfold netB
  rw [Bool.and_eq_true, Bool.and_eq_true, Bool.and_eq_true]
  refine ⟨⟨ndB_iff.mpr netR_nd, List.all_eq_true.mpr fun p hp => netR_on hn hp⟩, ?_, ?_⟩
  · unfold sweepB
    rw [List.all_eq_true]
    intro r hr
    rw [List.all_eq_true]
    intro c hc
    rw [List.mem_range] at hr hc
    unfold wide at hr hc
    simp at hr hc
    have c2 : ¬ C < n := by omega
    obtain ⟨q, hq, h0, hm⟩ := mem_netR (R := R) (C := C) hn (fun z => c2 z.2)
    by_cases c1 : R < n
    · have := h0 (.inl c1)
      subst this
      obtain ⟨k, hk, e⟩ := res (a := c + 1) hq
      refine hit_of (p := (((r : Nat) : Int), ((c + k : Nat) : Int))) (mem_row.mpr ⟨k, hk, by simp⟩) ((hm _).mpr ⟨r, c + k, hr, by omega, ?_, rfl⟩)
      unfold netPl
      rw [if_neg c2, if_pos c1, show c + k + 1 = c + 1 + k by omega, e]
    · obtain ⟨k, hk, e⟩ := res (a := r + c) hq
      refine hit_of (p := (((r : Nat) : Int), ((c + k : Nat) : Int))) (mem_row.mpr ⟨k, hk, by simp⟩) ((hm _).mpr ⟨r, c + k, hr, by omega, ?_, rfl⟩)
      unfold netPl
      rw [if_neg c2, if_neg c1, show r + (c + k) = r + c + k by omega, e]
  · unfold sweepB
    rw [List.all_eq_true]
    intro r hr
    rw [List.all_eq_true]
    intro c hc
    rw [List.mem_range] at hr hc
    unfold wide at hr hc
    simp at hr hc
    have c1 : ¬ R < n := by omega
    obtain ⟨q, hq, h0, hm⟩ := mem_netR (R := R) (C := C) hn (fun z => c1 z.1)
    by_cases c2 : C < n
    · have := h0 (.inr c2)
      subst this
      obtain ⟨k, hk, e⟩ := res (a := r + 1) hq
      refine hit_of (p := (((r + k : Nat) : Int), ((c : Nat) : Int))) (mem_col.mpr ⟨k, hk, by simp⟩) ((hm _).mpr ⟨r + k, c, by omega, hc, ?_, rfl⟩)
      unfold netPl
      rw [if_pos c2, show r + k + 1 = r + 1 + k by omega, e]
    · obtain ⟨k, hk, e⟩ := res (a := r + c) hq
      refine hit_of (p := (((r + k : Nat) : Int), ((c : Nat) : Int))) (mem_col.mpr ⟨k, hk, by simp⟩) ((hm _).mpr ⟨r + k, c, by omega, hc, ?_, rfl⟩)
      unfold netPl
      rw [if_neg c2, if_neg c1, show r + k + c = r + c + k by omega, e]
theorem lnF_hole {L : Nat} (h : 0 < L) (R C : Nat) : (R : Int) * C - (if R % L + C % L ≤ L then ((R % L : Nat) : Int) * ((C % L : Nat) : Int) else ((L : Int) - (R % L : Nat)) * ((L : Int) - (C % L : Nat))) = L * (lnF R C L : Nat) := by
  unfold lnF
  have e := Nat.div_add_mod R L
  have e2 := Nat.div_add_mod C L
  have m := Nat.mod_lt R h
  have m2 := Nat.mod_lt C h
  generalize R / L = q at *
  generalize R % L = a at *
  generalize C / L = p at *
  generalize C % L = b at *
  subst e e2
  by_cases c : a + b ≤ L
  · rw [if_pos c]
    have z : a + b - L = 0 := by omega
    rw [z]
    push_cast
    simp only [Int.add_mul, Int.mul_add, Int.mul_comm, Int.mul_left_comm, Int.mul_assoc]
    omega
  · rw [if_neg c]
    have z : ((a + b - L : Nat) : Int) = (a : Int) + b - L := by omega
    push_cast
    rw [z]
    simp only [Int.add_mul, Int.mul_add, Int.sub_mul, Int.mul_sub, Int.mul_comm, Int.mul_left_comm, Int.mul_assoc]
    omega
theorem lN_le {R C n : Nat} (hn : 1 ≤ n) : n * lN R C n ≤ R * C := by
  unfold lN
  by_cases c1 : R < n
  · rw [if_pos c1]
    by_cases c2 : C < n
    · rw [if_pos c2]; omega
    · rw [if_neg c2, Nat.mul_left_comm]
      exact Nat.mul_le_mul_left R (Nat.mul_div_le C n)
  rw [if_neg c1]
  by_cases c2 : C < n
  · rw [if_pos c2, Nat.mul_left_comm, Nat.mul_comm R C]
    exact Nat.mul_le_mul_left C (Nat.mul_div_le R n)
  rw [if_neg c2]
  have h := lnF_hole (L := n) hn R C
  have m1 := Nat.mod_lt R (show 0 < n from hn)
  have m2 := Nat.mod_lt C (show 0 < n from hn)
  have nn : (0 : Int) ≤ (if R % n + C % n ≤ n then ((R % n : Nat) : Int) * ((C % n : Nat) : Int) else ((n : Int) - (R % n : Nat)) * ((n : Int) - (C % n : Nat))) := by
    split
    · exact Int.mul_nonneg (by omega) (by omega)
    · exact Int.mul_nonneg (by omega) (by omega)
  have : ((n * lnF R C n : Nat) : Int) ≤ ((R * C : Nat) : Int) := by
    push_cast
    omega
  omega
theorem cells_len {R C n : Nat} (hn : 1 ≤ n) : ((apartL R C n).flatMap Ship.cells).length ≤ R * C := by
  rw [flat_len _ n _ fun s hs => by rw [len_cells, ((apart_in hn).n s hs).1], apart_len hn, Nat.mul_comm]
  exact lN_le hn
def sLe (a b : Ship) : Bool := !(b.lt a)
def sortS (D : List Ship) : List Ship := D.mergeSort sLe
theorem sLe_total (a b : Ship) : (sLe a b || sLe b a) = true := by
  unfold sLe
  cases h : b.lt a with
  | false => rfl
  | true => rw [lt_asymm h]; rfl
theorem sLe_trans (a b c : Ship) (h1 : sLe a b = true) (h2 : sLe b c = true) : sLe a c = true := by
  unfold sLe at *
  obtain ⟨r1, c1, l1, n1⟩ := a
  obtain ⟨r2, c2, l2, n2⟩ := b
  obtain ⟨r3, c3, l3, n3⟩ := c
  unfold Ship.lt at *
  cases l1 <;> cases l2 <;> cases l3 <;> simp at h1 h2 ⊢ <;> omega
theorem sort_pw (D : List Ship) : (sortS D).Pairwise fun a b => sLe a b = true := List.pairwise_mergeSort sLe_trans sLe_total D
theorem sort_perm (D : List Ship) : (sortS D).Perm D := List.mergeSort_perm ..
theorem sort_q1 {D : List Ship} (h : D.length ≤ 1000000) : dSorted (.list (D.map Ship.d)) = some (shL Ship.d (sortS D)) := by
  unfold dSorted sortD
  simp only
  have ok : sortOk (D.map Ship.d) = true := sort_ok EqE.ship (by decide) (fun x _ y _ => ship_alike x y) (.inl fun x => rfl) (by rw [sizeLine_eq]; omega)
  rw [if_pos ok, shL]
  have e := List.map_mergeSort (r := sLe) (s := leD) (f := Ship.d) (l := D) fun a _ b _ => by
    rw [leD_eq, ship_lt]; rfl
  unfold sortS
  rw [← e, List.map_map]; rfl
theorem sort_q2 {D : List Ship} (h : D.length ≤ 1000000) : dSorted (.list ((sortS D).map Ship.d)) = some (shL Ship.d (sortS D)) :=
  sort_q EqE.ship (by decide) (fun x _ y _ => ship_alike x y) (.inl fun _ => rfl) (by rw [(sort_perm D).length_eq, sizeLine_eq]; omega) ((sort_pw D).imp fun {x y} h => by
    rw [ship_lt]
    unfold sLe at h
    simpa using h)
theorem In.perm {A B : List Ship} {n t b l r : Nat} (h : In A n t b l r) (p : B.Perm A) : In B n t b l r where
  n s hs := h.n s (p.mem_iff.mp hs)
  c s hs := h.c s (p.mem_iff.mp hs)
theorem Nd.perm {A B : List Ship} (h : Nd A) (p : B.Perm A) : Nd B := ((p.flatMap_right Ship.cells).nodup_iff).mpr h
theorem dist_ships2 {f : PyData → OV → O OV} (hf : ∀ (s : Ship) (l : List Cell), s.n ≤ 1000 → l.Nodup → l.length ≤ 900000 → f s.d (dtC l) = if ndB (l ++ s.cells) = true then .next (dtC (l ++ s.cells)) else .ret (.sh (.bool false))) :
    ∀ (ss : List Ship) (l : List Cell), (∀ s ∈ ss, s.n ≤ 1000) → (l ++ ss.flatMap Ship.cells).Nodup → l.length + (ss.flatMap Ship.cells).length ≤ 900000 → forO (ss.map Ship.d) f (dtC l) = .next (dtC (l ++ ss.flatMap Ship.cells))
  | [], l, _, nd, _ => by rw [List.flatMap_nil, List.append_nil]; rfl
  | s :: ss, l, hn, nd, hl => by
    have hs := hn s List.mem_cons_self
    rw [List.flatMap_cons, List.length_append] at hl
    rw [List.flatMap_cons, ← List.append_assoc] at nd
    have nd1 : (l ++ s.cells).Nodup := (List.nodup_append.mp nd).1
    rw [List.map_cons, forO_cons, hf s l hs (List.nodup_append.mp nd1).1 (by omega), if_pos (ndB_iff.mpr nd1), List.flatMap_cons, ← List.append_assoc]
    exact dist_ships2 hf ss _ (fun t ht => hn t (List.mem_cons_of_mem _ ht)) nd (by rw [List.length_append]; omega)
theorem lie_q {ss : List Ship} (hn : ∀ s ∈ ss, s.n ≤ 1000) (nd : Nd ss) (hl : (ss.flatMap Ship.cells).length ≤ 800000) : q_lie_apart [.list (ss.map Ship.d)] = .ok (.sh (.bool true)) := by
  have lp := dist_ships2 apart2 ss [] hn nd (by simpa using Nat.le_trans hl (by decide))
  rw [List.nil_append] at lp
  have d0 : (OV.dt []) = dtC [] := rfl
  rw [← d0] at lp
  generalize dtC (ss.flatMap Ship.cells) = D at *
  clear d0 nd hl hn
  unfold q_lie_apart q_lie_apart_0
  get_elem_tactic_trivial
theorem lawlie_q {ss : List Ship} (hn : ∀ s ∈ ss, s.n ≤ 1000) (nd : Nd ss) (hl : (ss.flatMap Ship.cells).length ≤ 800000) : q__law_apart [.list (ss.map Ship.d)] = .ok (.sh (.bool true)) := by
  have lp := dist_ships2 lawapart2 ss [] hn nd (by simpa using Nat.le_trans hl (by decide))
  rw [List.nil_append] at lp
  have d0 : (OV.dt []) = dtC [] := rfl
  rw [← d0] at lp
  generalize dtC (ss.flatMap Ship.cells) = D at *
  clear d0 nd hl hn
  unfold q__law_apart q__law_apart_0
  get_elem_tactic_trivial
section
variable {R C n : Nat}
theorem right1 {p : Cell} (h1 : 0 ≤ p.1) (h2 : p.1 < R) (h3 : 0 ≤ p.2) (h4 : p.2 < C) : q__law_ships_right_1 (.int (R : Nat)) (.int (C : Nat)) [.int p.1, .int p.2] (cD p) () = .next () := by
  have g1 : gLt (.sh (.int p.1)) (.sh (.int 0)) = some (.sh (.bool false)) := by
    rw [show gLt (.sh (.int p.1)) (.sh (.int 0)) = some (.sh (.bool (decide (p.1 < 0)))) from rfl, decide_eq_false (by omega)]
  have g2 : gGe (.sh (.int p.1)) (.sh (.int (R : Nat))) = some (.sh (.bool false)) := by
    rw [show gGe (.sh (.int p.1)) (.sh (.int (R : Nat))) = some (.sh (.bool (decide (p.1 ≥ ((R : Nat) : Int))))) from rfl, decide_eq_false (by omega)]
  have g3 : gLt (.sh (.int p.2)) (.sh (.int 0)) = some (.sh (.bool false)) := by
    rw [show gLt (.sh (.int p.2)) (.sh (.int 0)) = some (.sh (.bool (decide (p.2 < 0)))) from rfl, decide_eq_false (by omega)]
  have g4 : gGe (.sh (.int p.2)) (.sh (.int (C : Nat))) = some (.sh (.bool false)) := by
    rw [show gGe (.sh (.int p.2)) (.sh (.int (C : Nat))) = some (.sh (.bool (decide (p.2 ≥ ((C : Nat) : Int))))) from rfl, decide_eq_false (by omega)]
  clear h1 h2 h3 h4
  unfold q__law_ships_right_1
  get_elem_tactic_trivial
theorem right2 {s : Ship} (hn : n ≤ 1000) (h1 : s.n = n) (h2 : n = 1 → s.al = true) (hc : ∀ p ∈ s.cells, 0 ≤ p.1 ∧ p.1 < R ∧ 0 ≤ p.2 ∧ p.2 < C) : q__law_ships_right_2 (.int (R : Nat)) (.int (C : Nat)) (.int (n : Nat)) s.d () = .next () := by
  have is := gIsi_sh (T := "tuple") (d := s.d) rfl
  have is2 : isiB "tuple" s.d = true := rfl
  have ln : dLen s.d = some (.sh (.int 4)) := rfl
  have e4 : gEq true (.sh (.int 4)) (.sh (.int 4)) = some (.sh (.bool false)) := by rw [EqE.int.eq (by decide) fz_sh fz_sh]; rfl
  have b3 : Ev.gSub (.sh s.d) (.sh (.int 3)) = some (.sh (.int (n : Nat))) := by rw [← h1]; rfl
  have en : gEq true (.sh (.int (n : Nat))) (.sh (.int (n : Nat))) = some (.sh (.bool false)) := by rw [EqE.int.eq (by decide) fz_sh fz_sh]; simp
  have b2 : Ev.gSub (.sh s.d) (.sh (.int 2)) = some (.sh (.str (wayS s.al))) := rfl
  have gi : ∀ al, Ev.gIn true (.sh (.str (wayS al))) (.sh (.tuple [.str "along", .str "down"])) = some (.sh (.bool false)) := fun al => by
    unfold Ev.gIn
    simp only [fz_sh]
    rw [if_pos (by cases al <;> exact ⟨rfl, rfl⟩)]
    have : (true ^^ [PyData.str "along", .str "down"].any fun z => PyData.eqv z (.str (wayS al))) = false := by cases al <;> decide +kernel
    rw [this]
  have gi := gi s.al
  have e1 : gEq false (.sh (.int (n : Nat))) (.sh (.int 1)) = some (.sh (.bool (decide (n = 1)))) := by
    rw [EqE.int.eq (by decide) fz_sh fz_sh, Bool.false_xor]
    congr 3
    exact decide_eq_decide.mpr (by omega)
  have ed : s.al = true → gEq false (.sh (.str (wayS s.al))) (.sh (.str "down")) = some (.sh (.bool false)) := fun e => by rw [gEq_down, e]; rfl
  have cq := law_cells_q (s := s) (by omega)
  have it : itR (shL cD s.cells) = .ok (s.cells.map cD) := itR_shL
  have lp : forO (s.cells.map cD) (fun x129 s128 => O.bind (O.of (unT 2 (fz (.sh x129)))) fun t130 => q__law_ships_right_1 (.int (R : Nat)) (.int (C : Nat)) t130 x129 s128) () = .next () := forO_same fun d hd => by
    obtain ⟨p, hp, rfl⟩ := List.mem_map.mp hd
    obtain ⟨a1, a2, a3, a4⟩ := hc p hp
    rw [fz_sh, show unT 2 (cD p) = .ok [.int p.1, .int p.2] from unT_t rfl, O.of_ok, O.bind_next]
    exact right1 a1 a2 a3 a4
  simp only [fz_sh] at lp
  clear hc h1
  by_cases h : n = 1
  · rw [decide_eq_true h] at e1
    have ed := ed (h2 h)
    clear h h2
    unfold q__law_ships_right_2
    get_elem_tactic_trivial
  · rw [decide_eq_false h] at e1
    clear ed h h2
    unfold q__law_ships_right_2
    get_elem_tactic_trivial
theorem right_q {D : List Ship} (hn : n ≤ 1000) (hl : D.length ≤ 100000) (hi : In D n 0 R 0 C) (nd : Nd D) (hc : (D.flatMap Ship.cells).length ≤ 800000) : q__law_ships_right [.int (R : Nat), .int (C : Nat), .int (n : Nat), .list ((sortS D).map Ship.d)] = .ok (.sh (.bool true)) := by
  have pm := sort_perm D
  have hi := hi.perm pm
  have nd := nd.perm pm
  have lp : forO ((sortS D).map Ship.d) (fun x6 s5 => q__law_ships_right_2 (.int (R : Nat)) (.int (C : Nat)) (.int (n : Nat)) x6 s5) () = .next () := forO_same fun d hd => by
    obtain ⟨s, hs, rfl⟩ := List.mem_map.mp hd
    have h := hi.n s hs
    exact right2 hn h.1 h.2 fun p hp => by
      have := hi.c s hs p hp
      omega
  have it : itR (.sh (.list ((sortS D).map Ship.d))) = .ok ((sortS D).map Ship.d) := itR_list
  have ds := sort_q2 (D := D) (by omega)
  have eq : gEq false (.sh (.list ((sortS D).map Ship.d))) (shL Ship.d (sortS D)) = some (.sh (.bool true)) := by
    rw [EqE.ship.list.eq (by decide) fz_sh fz_shL]; simp
  have lq := lawlie_q (ss := sortS D) (fun s hs => by rw [(hi.n s hs).1]; exact hn) nd (by rw [(pm.flatMap_right Ship.cells).length_eq]; exact hc)
  generalize (sortS D).map Ship.d = L at *
  generalize shL Ship.d (sortS D) = E at *
  clear pm hi nd hc hl
  unfold q__law_ships_right q__law_ships_right_0
  get_elem_tactic_trivial
end
theorem noDks_sh {ds : List PyData} : noDks (ds.map .sh) = true := by
  induction ds with
  | nil => rw [List.map_nil, noDks]
  | cons d ds ih => rw [List.map_cons, noDks, noDk, ih]; rfl
theorem noDk_shL {α : Type} {e : α → PyData} {xs : List α} : noDk (shL e xs) = true := by
  unfold shL
  rw [noDk]
  have := noDks_sh (ds := xs.map e)
  rw [List.map_map] at this
  exact this
theorem shOf_map : ∀ ds : List PyData, shOf (ds.map .sh) = some ds
  | [] => rfl
  | d :: ds => by
    rw [List.map_cons]
    show (shOf (ds.map .sh)).map (d :: ·) = _
    rw [shOf_map ds]; rfl
theorem cpBR_shL {α : Type} {e : α → PyData} {xs : List α} : cpBR (shL e xs) = .ok (shL e xs) := by
  have h := shOf_map (xs.map e)
  rw [List.map_map] at h
  unfold shL cpBR
  have h' : shOf (xs.map fun x => OV.sh (e x)) = some (xs.map e) := h
  simp only [h']
  rw [List.map_map]
  rfl
theorem thaw_ok {o : OV} {q : Ev.R Bool} (h : noDk o = true) : thawR [] o q = noX q := if_pos ⟨h, rfl⟩
section
variable {R C n : Nat}
theorem net_of_q (hn : 1 ≤ n) (hn2 : n ≤ 60) (hR : R ≤ 60) (hC : C ≤ 60) : q_net_of [.int (R : Nat), .int (C : Nat), .int (n : Nat)] = .ok (.tup [shL cD (netR R C n), shL Ship.d (sortS (apartL R C n))]) := by
  have n1 := net_q (R := R) (C := C) hn (by omega) (by omega) (by omega)
  have a1 := apart_q (R := R) (C := C) hn hn2 hR hC
  have al : (apartL R C n).length ≤ 3600 := by
    rw [apart_len hn]
    have h1 := lN_le (R := R) (C := C) hn
    have h2 : R * C ≤ 60 * 60 := Nat.mul_le_mul hR hC
    have h3 : 1 * lN R C n ≤ n * lN R C n := Nat.mul_le_mul_right _ hn
    omega
  have ds := sort_q1 (D := apartL R C n) (by omega)
  have fz1 : fz (shL Ship.d (apartL R C n)) = .list ((apartL R C n).map Ship.d) := fz_shL
  generalize shL Ship.d (sortS (apartL R C n)) = S1 at *
  generalize (apartL R C n).map Ship.d = L1 at *
  generalize shL Ship.d (apartL R C n) = A1 at *
  generalize shL cD (netR R C n) = N1 at *
  clear al
  unfold q_net_of q_net_of_0
  get_elem_tactic_trivial
theorem least_q (hn : 1 ≤ n) (hn2 : n ≤ 60) (hR : R ≤ 60) (hC : C ≤ 60) : q_least_net [.int (R : Nat), .int (C : Nat), .int (n : Nat)] = .ok (.sh (.int ((netR R C n).length : Nat))) := by
  have n1 := net_q (R := R) (C := C) hn (by omega) (by omega) (by omega)
  have fz1 : fz (shL cD (netR R C n)) = .list ((netR R C n).map cD) := fz_shL
  have dl : dLen (.list ((netR R C n).map cD)) = some (.sh (.int ((netR R C n).length : Nat))) := by rw [dLen_list, List.length_map]
  generalize shL cD (netR R C n) = N1 at *
  generalize (netR R C n).map cD = L1 at *
  unfold q_least_net q_least_net_0
  get_elem_tactic_trivial
end
theorem cell_turn (cell : Int) : q_law_1 [] (.int cell) () = .next () := by
  obtain ⟨R, C, n, hR, hC, hn, hq⟩ := sizes_q cell
  have nq := net_of_q (R := R) (C := C) hn.1 hn.2 hR.2 hC.2
  have lq := least_q (R := R) (C := C) hn.1 hn.2 hR.2 hC.2
  have nl : (netR R C n).length = lN R C n := netR_len hn.1
  have al : (apartL R C n).length = lN R C n := apart_len hn.1
  have lN3 : lN R C n ≤ 3600 := by
    have h1 := lN_le (R := R) (C := C) hn.1
    have h2 : R * C ≤ 60 * 60 := Nat.mul_le_mul hR.2 hC.2
    have h3 : 1 * lN R C n ≤ n * lN R C n := Nat.mul_le_mul_right _ hn.1
    omega
  have cl := cells_len (R := R) (C := C) hn.1
  have h2 : R * C ≤ 60 * 60 := Nat.mul_le_mul hR.2 hC.2
  have pm := sort_perm (apartL R C n)
  have ni := law_is_net_q (R := R) (C := C) (n := n) hn.1 (by omega) (by omega) (by omega) (cells := netR R C n) (by omega)
  have pi := is_net_q (R := R) (C := C) (n := n) hn.1 (by omega) (by omega) (by omega) (cells := netR R C n) (by omega)
  rw [net_ok hn.1] at ni pi
  have rq := right_q (R := R) (C := C) (n := n) (by omega) (by omega) (apart_in hn.1) (apart_nd hn.1) (by omega)
  have li := lie_q (ss := sortS (apartL R C n)) (fun s hs => by rw [((apart_in (R := R) (C := C) hn.1).n s (pm.mem_iff.mp hs)).1]; omega) ((apart_nd hn.1).perm pm) (by rw [(pm.flatMap_right Ship.cells).length_eq]; omega)
  have ns := netR_sorted (R := R) (C := C) (n := n) (by omega)
  have sl : (sortS (apartL R C n)).length = lN R C n := by rw [pm.length_eq, al]
  have u3 : unT 3 (.tuple [.int (R : Nat), .int (C : Nat), .int (n : Nat)]) = .ok [.int (R : Nat), .int (C : Nat), .int (n : Nat)] := unT_l3
  -- what is owned
  have kN : noDk (shL cD (netR R C n)) = true := noDk_shL
  have kS : noDk (shL Ship.d (sortS (apartL R C n))) = true := noDk_shL
  have kV : noDk (.tup [shL cD (netR R C n), shL Ship.d (sortS (apartL R C n))]) = true := by
    rw [noDk, noDks, noDks, noDks, kN, kS]; rfl
  have tN := fun q => thaw_ok (q := q) kN
  have tS := fun q => thaw_ok (q := q) kS
  have tV := fun q => thaw_ok (q := q) kV
  have fN : fz (shL cD (netR R C n)) = .list ((netR R C n).map cD) := fz_shL
  have fS : fz (shL Ship.d (sortS (apartL R C n))) = .list ((sortS (apartL R C n)).map Ship.d) := fz_shL
  have fV : fz (.tup [shL cD (netR R C n), shL Ship.d (sortS (apartL R C n))]) = .tuple [.list ((netR R C n).map cD), .list ((sortS (apartL R C n)).map Ship.d)] := by
    rw [fz, fzs_eq]
    simp only [List.map_cons, List.map_nil, fN, fS]
  have un : untR (.tup [shL cD (netR R C n), shL Ship.d (sortS (apartL R C n))]) = .ok (shL cD (netR R C n), shL Ship.d (sortS (apartL R C n))) := rfl
  have cN : cpBR (shL cD (netR R C n)) = .ok (shL cD (netR R C n)) := cpBR_shL
  have cS : cpBR (shL Ship.d (sortS (apartL R C n))) = .ok (shL Ship.d (sortS (apartL R C n))) := cpBR_shL
  have lN' : dLenP (.list ((netR R C n).map cD)) = some (.int (lN R C n : Nat)) := by
    show some (PyData.int (((netR R C n).map cD).length : Nat)) = _
    rw [List.length_map, nl]
  have lS' : dLenP (.list ((sortS (apartL R C n)).map Ship.d)) = some (.int (lN R C n : Nat)) := by
    show some (PyData.int (((sortS (apartL R C n)).map Ship.d).length : Nat)) = _
    rw [List.length_map, sl]
  have el : gEq true (.sh (.int (lN R C n : Nat))) (.sh (.int (lN R C n : Nat))) = some (.sh (.bool false)) := by rw [EqE.int.eq (by decide) fz_sh fz_sh]; simp
  rw [nl] at lq
  have eN : gEq true (.sh (.list ((netR R C n).map cD))) (shL cD (netR R C n)) = some (.sh (.bool false)) := by rw [EqE.cell.list.eq (by decide) fz_sh fz_shL]; simp
  have eV : gEq true (.tup [shL cD (netR R C n), shL Ship.d (sortS (apartL R C n))]) (.sh (.tuple [.list ((netR R C n).map cD), .list ((sortS (apartL R C n)).map Ship.d)])) = some (.sh (.bool false)) := by
    rw [(EqE.pair EqE.cell.list EqE.ship.list).eq (x := (netR R C n, sortS (apartL R C n))) (y := (netR R C n, sortS (apartL R C n))) (by decide) fV fz_sh]; simp
  have oN : ownR "list" (shL cD (netR R C n)) = .ok () := rfl
  have oS : ownR "list" (shL Ship.d (sortS (apartL R C n))) = .ok () := rfl
  have mN : ∃ X, mutR mApp (shL cD (netR R C n)) [.sh (.tuple [.int 0, .int 0])] = .ok X := ⟨_, mutR_shL (by rw [sizeLine_eq]; omega)⟩
  have mS : ∃ X, mutR mApp (shL Ship.d (sortS (apartL R C n))) [.sh .none] = .ok X := ⟨_, mutR_shL (by rw [sizeLine_eq]; omega)⟩
  obtain ⟨XN, mN⟩ := mN
  obtain ⟨XS, mS⟩ := mS
  obtain ⟨YN, dN, fYN⟩ : ∃ Y, dList (.list ((netR R C n).map cD)) = some Y ∧ fz Y = .list ((netR R C n).map cD) := ⟨shL cD (netR R C n), by show some (OV.lst (((netR R C n).map cD).map .sh)) = _; unfold shL; rw [List.map_map]; rfl, fN⟩
  obtain ⟨YS, dS, fYS⟩ : ∃ Y, dList (.list ((sortS (apartL R C n)).map Ship.d)) = some Y ∧ fz Y = .list ((sortS (apartL R C n)).map Ship.d) := ⟨shL Ship.d (sortS (apartL R C n)), by show some (OV.lst (((sortS (apartL R C n)).map Ship.d).map .sh)) = _; unfold shL; rw [List.map_map]; rfl, fS⟩
  have gT : gIsi "tuple" [.sh (.tuple [.list ((netR R C n).map cD), .list ((sortS (apartL R C n)).map Ship.d)])] = some (.sh (.bool true)) := by rw [gIsi_sh rfl]; rfl
  have gL : ∀ ds : List PyData, gIsi "list" [.sh (.list ds)] = some (.sh (.bool true)) := fun ds => by rw [gIsi_sh rfl]; rfl
  have it : itR (.sh (.tuple [.list ((netR R C n).map cD), .list ((sortS (apartL R C n)).map Ship.d)])) = .ok [.list ((netR R C n).map cD), .list ((sortS (apartL R C n)).map Ship.d)] := itR_tup
  have e00 : gEq true (.lst []) (.lst []) = some (.sh (.bool false)) := by
    have := EqE.int.eqL (by decide) (neg := true) (xs := []) (ys := [])
    exact this
  have ib : gIsB true (.sh (.bool true)) (.sh (.bool true)) = some (.sh (.bool false)) := rfl
  generalize shL cD (netR R C n) = N1 at *
  generalize shL Ship.d (sortS (apartL R C n)) = S1 at *
  generalize (netR R C n).map cD = LN at *
  generalize (sortS (apartL R C n)).map Ship.d = LS at *
  generalize OV.tup [N1, S1] = V1 at *
  clear kN kS kV nl al lN3 cl h2 pm sl hR hC hn
  unfold q_law_1
  get_elem_tactic_trivial
  rw [lcR_some (fun _ => false) OV.sh _ (fun x hx => by
    simp only [List.mem_cons, List.not_mem_nil, or_false] at hx
    rcases hx with rfl | rfl <;> get_elem_tactic_trivial)]
  rw [List.filter_eq_nil_iff.mpr (fun _ _ h => Bool.false_ne_true h), List.map_nil]
  get_elem_tactic_trivial
theorem true_ofR {m : List PyData → List SO → Rv} {q : List PyData → List SO → Ev.R OV} (hp : jRP m q) {ds : List PyData} {o : OV} (h : q ds [] = .ok o) : ∃ st, m ds [] = .ok o st := by
  have := hp ds []
  rw [h] at this
  exact ⟨[], this⟩
theorem law_true (ns : List Int) (h : scOk ns) : ∃ st, m_law [.list (ns.map .int)] [] = .ok (.sh (.bool true)) st := by
  obtain ⟨ms, hi, ha, hl⟩ := script_it ns 12 h.1
  have lp : forO (.int 0 :: ms.map PyData.int) (fun x s => q_law_1 [] x s) () = .next () := forO_same fun d hd => by
    rcases List.mem_cons.mp hd with rfl | hd
    · exact cell_turn 0
    · obtain ⟨x, _, rfl⟩ := List.mem_map.mp hd
      exact cell_turn x
  have it : itR (.lst (.sh (.int 0) :: ms.map fun x => .sh (.int x))) = .ok (.int 0 :: ms.map PyData.int) := by
    have := itR_shL (e := PyData.int) (xs := 0 :: ms)
    exact this
  refine true_ofR okq_law ?_
  generalize (OV.lst (.sh (.int 0) :: ms.map fun x => .sh (.int x))) = LS at *
  generalize (PyData.int 0 :: ms.map PyData.int) = DS at *
  clear hl h
  unfold q_law q_law_0
  get_elem_tactic_trivial
end K22
open PySem PySem.W PySem.Calls PyProof.Rows
set_option maxRecDepth 100000
set_option maxHeartbeats 0 in
theorem PySem.Challenge.cw_fleethide_k22_whole_nets_and_ships_apart_holds : PySem.Challenge.rw_fleethide_k22_whole_nets_and_ships_apart.Holds := by
  w_on; o_law
  refine HandSHeadRun.head_any (r := K22.RW) (q := view K22.RW.prog [20]) (H := K22.hkL) (ob := K22.obL) (M := 1660) (loose := K22.looseL) (d := HandSHeadRun.topDef K22.RW.prog 20) (kwd := []) K22.obL_eq
    (by kernel_rfl) (fun s => by kernel_rfl) K22.runL (by kernel_rfl) (by kernel_rfl) (by kernel_rfl) (by rfl) (by first | assumption | decide +kernel) (by decide +kernel) ⟨rfl, rfl, rfl, rfl, rfl, by decide +kernel⟩ ?hw ?hc
  case hw => w_witness2
  case hc =>
    refine Ev.walkE (l := PySem.Challenge.rw_fleethide_k22_whole_nets_and_ships_apart) (k := 5) ⟨rfl, by decide, by decide⟩ rfl (by kernel_rfl) ?F
    intro w mg fa h Y hmg0 G
    obtain ⟨K, KX, c⟩ := Y
    have e0 : (HandSHeadRun.topDef K22.RW.prog 20).name = ("law" : PySem.Str) := by kernel_rfl
    rw [e0] at hmg0
    have T := K22.topL KX G c
    obtain ⟨fd, F⟩ := c.t.d.def_ 17 (d := K22.dd_law) rfl
    have ef := hmg0.symm.trans (He.glo_ok KX G (c.t.d.fact 17 (f := .glo "law") rfl))
    cases ef
    exact ⟨K, fd, KX, fun s u => L2.FunD.bindsA (ps := ["script"]) F (fun _ _ _ _ _ _ us hl => match us, hl with | [_], _ => rfl) s [u] rfl, fun base _ _ => Ev.law_of K22.law_true (K22.ok_law T F)⟩
