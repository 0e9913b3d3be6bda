import PyProof.Rows.All
import Wide.All
import OpenK.AllK
import Wide.FinOn
import KE.KDictSum
import KE.LcSums
import Lean
import PySem.Challenge.RW_nu0266_01
open PySem PySem.W PyProof.Rows
set_option Elab.async false
section
open PySem PySem.W PyProof.Rows
set_option linter.all false
set_option maxRecDepth 100000
namespace Mine
/- the looks at the text of the law -/
theorem lw (h : PySem.Challenge.rw_nu0266_01.row.wellSaid = true → PySem.Challenge.rw_nu0266_01.row.Holds) : PySem.Challenge.rw_nu0266_01.Holds := by
  o_law
  exact h (by assumption)
/- what the top leaves is written out: kx lays those objects as one constant, and nothing else; the head itself is proved below, at once, so that no state between has to be kept -/
local macro_rules | `(tactic| o_head $_) => `(tactic| assumption)
set_option maxHeartbeats 8000000 in
theorem kx (h : PySem.Challenge.rw_nu0266_01.row.Holds) : PySem.Challenge.rw_nu0266_01.row.Holds := by k_head
noncomputable def vw : Program := PySem.W.view PySem.Challenge.rw_nu0266_01.row.prog [0, 2, 3, 5, 6, 7, 8, 9, 10]
noncomputable def ads : List Addr := [2, 3, 15, 17, 18, 20, 21, 29, 31, 32, 34, 35, 36, 38, 39, 41, 42, 43, 45, 46, 48, 49, 50, 52, 53, 55, 56, 57, 59, 60, 62, 63, 64, 66, 67, 69, 70, 71, 73, 74, 76, 77, 78, 81, 82, 83, 85, 86, 88, 89, 90, 92, 93, 95, 96, 97, 99, 100, 102, 103, 104, 106, 107, 109, 110, 111, 113, 114, 116, 117, 118, 120, 121, 123, 124, 125, 126, 127, 128, 129, 139, 141, 142, 144, 145, 146, 149, 150, 151, 152, 153, 154, 155, 158, 160, 161, 163, 164, 165, 168, 169, 170, 172, 173, 175, 176, 177, 179, 180, 182, 183, 184, 186, 187, 189, 190, 191, 194, 195]
theorem ads_ok : ∀ P, ads = (kx.heap_1 P).map (·.1) := fun _ => by kernel_rfl
noncomputable def HH : Hook := kHook kx.heap_1 ads ads_ok
noncomputable def Xt (s : Shared) : Bool := xlAt vw [] s && recOk (RowW.records (OpenRow.toRowW PySem.Challenge.rw_nu0266_01.row)) s
theorem op : opening PySem.Challenge.rw_nu0266_01.row.prog = plainProg PySem.Challenge.rw_nu0266_01.row.prog.main.scope.names := by kernel_rfl
theorem fm : ∀ s, fenceModules? PySem.Challenge.rw_nu0266_01.row.prog s = some s := fun s => by kernel_rfl
set_option maxHeartbeats 8000000 in
theorem run : ∀ (w : World) (os : OsState), (topFrom treeTable PySem.Challenge.rw_nu0266_01.row.prog w 1200 ⟨boot_heap w.params, Array.mk [], boot_drawn, boot_toks, os⟩).map (fun s => (openSeen vw [] (importedModules PySem.Challenge.rw_nu0266_01.row.prog.main.body) Xt true s, Hook.obs HH s)) = some (openGood vw [], Hook.val HH w) := fun w os => by
  unfold topFrom
  try rw [PySem.W.Fast.te14082659384304107361, PySem.W.Fast.te14364793385576792824, PySem.W.Fast.te4187177175401517315]
  kernel_rfl
theorem left_of {p : Program} {w : World} {N : Nat} {s₀ : Shared} {α : Type} {f : Shared → α} {r : Option α} (e : fencedOpening treeTable p w N = some s₀) (h : (topFrom treeTable p w N s₀).map f = r) : (openEnds treeTable p w N).map f = r := by
  unfold openEnds
  rw [e]
  exact h
theorem left : LeftO PySem.Challenge.rw_nu0266_01.row.prog vw [] Xt (Hook.obs HH) (Hook.val HH) 1200 := fun w => by
  obtain ⟨⟨h, gs, d, k, os⟩, e, e'⟩ := Option.map_eq_some_iff.mp (boot_open op (N := 1200) rfl fm w)
  obtain ⟨rfl, rfl, rfl, rfl⟩ : h = boot_heap w.params ∧ gs = Array.mk [] ∧ d = boot_drawn ∧ k = boot_toks := by simpa using e'
  exact left_of e (run w os)
end Mine
end
section
theorem Mine.topOffNuBase : True := by
  w_top off
  k_with_none
  trivial
set_option linter.all false
open PySem PySem.W PyProof.Rows PySem.Calls
set_option maxRecDepth 100000
namespace Mine


/-- what stands of the program's own top in a heap -/
structure Ctx (w : World) (mean : ExcName → Option Value) (mg mb : Str → Option Value) (hs : Heap) : Prop where
  X : (Mine.kx.heap_1 w.params).In hs
  T : Top Mine.vw [] mean mg mb hs

theorem Ctx.keeps {w : World} {mean : ExcName → Option Value} {mg mb : Str → Option Value} {h h' : Heap} (C : Ctx w mean mg mb h) (k : h.StaysIn h') : Ctx w mean mg mb h' :=
  ⟨Frag.In.keeps C.X k, C.T.keeps k⟩

/-- everything but the addresses of M stays -/
noncomputable def Keep (M : List Addr) (h h' : Heap) : Prop := ∀ a o, a ∉ M → h.get? a = some o → h'.get? a = some o

/-- what stands around a call: nothing handled; the frames below are not looked at -/
noncomputable abbrev At (dp un : Nat) (fr : Option (List Env)) (gd : Option (List Code)) : Around := { handled := none, depth := dp, frames := fr, guards := gd, units := un }

section
variable {w : World} {mean : ExcName → Option Value} {mg mb : Str → Option Value} {hs : Heap} {dp un : Nat} {fr : Option (List Env)} {gd : Option (List Code)} {s : Shared} {Q E : Value → Shared → Prop}
theorem enter {name qual : Str} {params : Arguments} {body : List Stmt} {scope : Scope} {dV kV doc pm cdv ct oc : Value} {an od : Option Addr} {osl : Array (Option Value)} {f : Addr} {args : List Value} {binds : List (Str × Value)} (mods : List (Addr × Obj)) (C : Ctx w mean mg mb hs) (S : hs.StaysIn s.heap)
    (ho : (Mine.kx.heap_1 w.params).lookup f = some ⟨oc, od, .func (fnOf name qual params body scope dV kV doc pm an cdv ct), osl⟩) (hcd : codeIn (Mine.kx.heap_1 w.params) cdv qual = true) (hroom : dp < recursionLimit)
    (hm : ∀ p ∈ mods, hs.get? p.1 = none) (hn : ∀ p ∈ mods, s.heap.get? p.1 = some p.2)
    (hbind : BindsTo s (fnOf name qual params body scope dV kV doc pm an cdv ct) ⟨args, []⟩ binds) (hcell : ∀ x ∈ scope.names, x.2 ≠ .cell) (hloc : ∀ x ∈ binds, scope.names.lookup x.1 = some .local)
    (h : ∀ g L' h₁ fr' tk, Keep (mods.map (·.1)) s.heap g → Fr g L' h₁ (fun x => binds.reverse.lookup x) → News g L' h₁ mods → (Mine.kx.heap_1 w.params).In g → Top Mine.vw [] mean mg mb g → hs.StaysIn g →
      (∀ a o, g.get? a = some o → s.heap.get? a = some o) → g.objs.size = s.heap.objs.size →
      wpAny (model PySem.Challenge.rw_nu0266_01.row.prog w) (At (dp + 1) (un + 3) fr' gd) (execs body (envOf qual scope L' f cdv)) (fun fl s' => Q (match fl with | .ret v => v | _ => .none) s') (fun _ _ => False) { s with heap := h₁, toks := tk })
    (hco : scope.isCoroutine = false) (hgen : scope.isGenerator = false) (hk : scope.kind = .function) :
    wpAny (model PySem.Challenge.rw_nu0266_01.row.prog w) (At dp un fr gd) (call (.ref f) args) Q E s := by
  have X := C.X
  have X' : (Mine.kx.heap_1 w.params).In s.heap := Frag.In.keeps X S
  refine wpAny_call ?_
  refine codeAny_call_def (fd := fnOf name qual params body scope dV kV doc pm an cdv ct) hroom (X' _ _ ho) rfl ((C.T.nolimit).keeps S) (codeRec_of X' hcd) rfl hbind hcell hloc (fun h₁ hns hk₁ => ?_) hco hgen hk
  have st : hs.StaysIn (hideAll s.heap (mods.map (·.1))) := fun b o e => hideAll_get _ (S b o e) (fun q => by
    obtain ⟨p, hp, rfl⟩ := List.mem_map.mp q
    rw [hm p hp] at e; cases e)
  have st' : ∀ b o, hs.get? b = some o → (hideAll s.heap (mods.map (·.1))).get? b = some o := st
  have X2 := Frag.In.keeps X st'
  have T2 := C.T.keeps st'
  exact wpAny_mono (h (hideAll s.heap (mods.map (·.1))) s.heap.objs.size h₁ _ _ (fun a o na e => hideAll_get _ e na) ⟨hns, fun b o e => hk₁ b o (of_hideAll _ e), Nat.le_of_eq (hideAll_size _ _)⟩
    (fun p hp => ⟨hk₁ _ _ (hn p hp), Nat.ne_of_lt (Heap.lt_size (hn p hp)), hideAll_none _ (List.mem_map_of_mem hp)⟩) X2 T2 st (fun a o e => of_hideAll _ e) (hideAll_size _ _)) (fun fl s' hl => hl) (fun _ _ y => y.elim)
theorem Keep.of_fr {M : List Addr} {h g h' : Heap} {L : Addr} {m : Str → Option Value} (K : Keep M h g) (F : Fr g L h' m) : Keep M h h' := fun a o n e => F.keep a o (K a o n e)
theorem size_of_fr {h g h' : Heap} {L : Addr} {m : Str → Option Value} (e : g.objs.size = h.objs.size) (F : Fr g L h' m) : h.objs.size ≤ h'.objs.size :=
  Nat.le_trans (Nat.le_of_eq e.symm) (Nat.le_trans F.above (Nat.le_of_lt F.ns.lt))
/-- one object of the ledger changed by a callee -/
theorem upd_keep {g h h' : Heap} {L a : Addr} {m : Str → Option Value} {o o' : Obj} {news : List (Addr × Obj)} {gn : Obj → List (Addr × Obj)} (F : Fr g L h m) (N : News g L h news) (U : UpdF a o news gn) (K : Keep [a] h h') (e : h'.get? a = some o') :
    Fr g L h' m ∧ News g L h' (gn o') := by
  obtain ⟨pre, post, rfl, hg, h1, h2⟩ := U.split
  have D := N (a, o) (List.mem_append_right _ (.head _))
  have off : ∀ b, b ≠ a → b ∉ [a] := fun b hb hm => hb (List.mem_singleton.mp hm)
  refine ⟨⟨F.ns.at' fun o e => K L o (off L (Ne.symm D.2.1)) e, fun b ob eb => K b ob (off b fun q => by rw [q, D.2.2] at eb; cases eb) (F.keep b ob eb), F.above⟩, ?_⟩
  rw [hg]
  intro p hp
  rcases List.mem_append.mp hp with hp | hp
  · have z := N p (List.mem_append_left _ hp)
    exact ⟨K _ _ (off _ (h1 p hp)) z.1, z.2⟩
  · rcases List.mem_cons.mp hp with rfl | hp
    · exact ⟨e, D.2⟩
    · have z := N p (List.mem_append_right _ (.tail _ hp))
      exact ⟨K _ _ (off _ (h2 p hp)) z.1, z.2⟩
theorem UpdF.old {a : Addr} {o : Obj} {news : List (Addr × Obj)} {gn : Obj → List (Addr × Obj)} (U : UpdF a o news gn) : (a, o) ∈ news := by
  obtain ⟨pre, post, rfl, _⟩ := U.split
  exact List.mem_append_right _ (.head _)
theorem keep_list {M : List Addr} {h h' : Heap} {l : Addr} {xs : Array Value} (K : Keep M h h') (n : l ∉ M) (x : h.IsList l xs) : h'.IsList l xs := let ⟨o, e, r⟩ := x; ⟨o, K l o n e, r⟩
theorem keep_tup {M : List Addr} {h h' : Heap} {l : Addr} {xs : Array Value} (K : Keep M h h') (n : l ∉ M) (x : IsTup h l xs) : IsTup h' l xs := let ⟨o, e, r⟩ := x; ⟨o, K l o n e, r⟩
theorem stay_list {h h' : Heap} {l : Addr} {xs : Array Value} (K : h.StaysIn h') (x : h.IsList l xs) : h'.IsList l xs := let ⟨o, e, r⟩ := x; ⟨o, K l o e, r⟩
theorem stay_tup {h h' : Heap} {l : Addr} {xs : Array Value} (K : h.StaysIn h') (x : IsTup h l xs) : IsTup h' l xs := let ⟨o, e, r⟩ := x; ⟨o, K l o e, r⟩
end
end Mine
end
section
theorem Mine.topOffNuNext : True := by
  w_top off
  k_with_none
  trivial
set_option linter.all false
open PySem PySem.W PyProof.Rows PySem.Calls PyProof.V PySem.Spec
set_option maxRecDepth 100000
namespace Mine
set_option maxHeartbeats 4000000 in
theorem next_spec {w : World} {mean : ExcName → Option Value} {mg mb : Str → Option Value} {hs : Heap} {dp un : Nat} {fr : Option (List Env)} {gd : Option (List Code)} {s : Shared} {Q E : Value → Shared → Prop}
   (C : Ctx w mean mg mb hs) (S : hs.StaysIn s.heap) (a c : Addr) (o : Obj) (ha : s.heap.get? a = some o) (hn : hs.get? a = none) (t t' : Tok) (k wd : Int) (hdp : dp ≤ 900) (hun : un ≤ 9000) (ns : List Int) (vs : List Value)
   (hd : o.IsDictOf (PySem.strKind PySem.Challenge.rw_nu0266_01.row.prog w) [(Str.ofString "cells", .ref c), (Str.ofString "spot", .int k t')]) (hk0 : 0 ≤ k) (hk1 : k ≤ 1000) (hw : 1 ≤ wd) (hw2 : wd ≤ 100)
   (hc : s.heap.IsList c vs.toArray) (hi : IntsAre vs ns) (hns : ns.length ≤ 60) (hca : c ≠ a)
   (hQ : ∀ h' o' r tr tk t'', Keep [a] s.heap h' → s.heap.objs.size ≤ h'.objs.size → h'.get? a = some o' → o'.IsDictOf (PySem.strKind PySem.Challenge.rw_nu0266_01.row.prog w) [(Str.ofString "cells", .ref c), (Str.ofString "spot", .int (k + 1) t'')] → 0 ≤ r → r < wd → Q (.int r tr) { s with heap := h', toks := tk }) :
   wpAny (model PySem.Challenge.rw_nu0266_01.row.prog w) (At dp un fr gd) (call (.ref 164) [.ref a, .int wd t]) Q E s := by
  have X0 := C.X
  revert X0
  k_fill
  intro X0
  refine' enter (binds := [(Str.ofString "feed", .ref a), (Str.ofString "wide", .int wd t)]) [(a, o)] C S ?ho ?hcd ?hr ?hm ?hn ?hbind ?hcell ?hloc ?_ ?hco ?hg ?hk
  case ho => k_is
  case hcd => k_is
  case hr => exact Nat.lt_of_le_of_lt hdp (by decide)
  case hm => intro p hp; rw [List.mem_singleton.mp hp]; exact hn
  case hn => intro p hp; rw [List.mem_singleton.mp hp]; exact ha
  case hbind => exact BindsTo.of_eq rfl
  case hcell => decide
  case hloc => exact locs rfl
  case hco => exact rfl
  case hg => exact rfl
  case hk => exact rfl
  intro g L' h₁ fr' tk0 K0 F N X T St Of Sz
  have hlc : g.IsList c vs.toArray := by
    obtain ⟨oc, e1, e2⟩ := hc
    exact ⟨oc, K0 c oc (by simpa using hca) e1, e2⟩
  have hgz : g.get? a = none := (N _ (.head _)).2.2
  have hlen := hi.length
  try dsimp only
  k_steps
  all_goals
    (try dsimp only)
    rename Fr _ _ _ _ => F9
    rename News _ _ _ _ => N9
    rename Obj.IsDictOf _ _ _ => D9
    refine hQ _ _ _ _ _ _ (Keep.of_fr (by simpa using K0) F9) (size_of_fr Sz F9) (N9 _ (.head _)).1 D9 ?_ ?_
    · exact Int.fmod_nonneg_of_pos _ (by omega)
    · exact Int.fmod_lt_of_pos _ (by omega)

/-- the same, as a step of the walk -/
theorem next_K {w : World} {mean : ExcName → Option Value} {mg mb : Str → Option Value} {g : Heap} {L : Addr} {m : Str → Option Value} {news : List (Addr × Obj)} {gn : Obj → List (Addr × Obj)} {dp un : Nat} {fr : Option (List Env)} {gd : Option (List Code)} {s : Shared} {Q E : Value → Shared → Prop}
   {a c : Addr} {o : Obj} {t t' : Tok} {k wd : Int} {ns : List Int} {vs : List Value}
   (F : Fr g L s.heap m) (N : News g L s.heap news) (X : (Mine.kx.heap_1 w.params).In g) (T : Top Mine.vw [] mean mg mb g) (U : UpdF a o news gn) (hdp : dp ≤ 900) (hun : un ≤ 9000)
   (hd : o.IsDictOf (PySem.strKind PySem.Challenge.rw_nu0266_01.row.prog w) [(Str.ofString "cells", .ref c), (Str.ofString "spot", .int k t')]) (hk0 : 0 ≤ k) (hk1 : k ≤ 1000) (hw : 1 ≤ wd) (hw2 : wd ≤ 100)
   (hc : s.heap.IsList c vs.toArray) (hi : IntsAre vs ns) (hns : ns.length ≤ 60) (hca : c ≠ a)
   (hQ : ∀ h' o' r tr tk t'', Fr g L h' m → News g L h' (gn o') → o'.IsDictOf (PySem.strKind PySem.Challenge.rw_nu0266_01.row.prog w) [(Str.ofString "cells", .ref c), (Str.ofString "spot", .int (k + 1) t'')] → 0 ≤ r → r < wd → Keep [a] s.heap h' → Q (.int r tr) { s with heap := h', toks := tk }) :
   wpAny (model PySem.Challenge.rw_nu0266_01.row.prog w) (At dp un fr gd) (call (.ref 164) [.ref a, .int wd t]) Q E s :=
  have D := N (a, o) (UpdF.old U)
  next_spec ⟨X, T⟩ F.keep a c o D.1 D.2.2 t t' k wd hdp hun ns vs hd hk0 hk1 hw hw2 hc hi hns hca fun h' o' r tr tk t'' K _ e d r0 r1 =>
    let ⟨F', N'⟩ := upd_keep F N U K e
    hQ h' o' r tr tk t'' F' N' d r0 r1 K
end Mine
end
section
theorem Mine.topOffNuRules : True := by
  w_top off
  k_with_none
  trivial
set_option linter.all false
open PySem PySem.W PyProof.Rows PySem.Calls PyProof.V PySem.Spec
set_option maxRecDepth 100000
namespace Mine
section
variable {prog : Program} {w : World} {A : Around} {E : Value → Shared → Prop} {s : Shared}
theorem len_G {l : Addr} {vs : List Value} {Q : Value → Shared → Prop} (hl : s.heap.IsList l vs.toArray) (hz : vs.length ≤ 16777216) (h : Q (.int (vs.length : Int) (s.toks + 1)) { s with toks := s.toks + 1 + 1 }) :
    wpAny (model prog w) A (call (.builtin "len") [.ref l]) Q E s := len_list hl (by rw [List.size_toArray]; omega) (by rw [List.size_toArray]; exact h)
theorem item_G {value slice : PySem.Expr} {l : Addr} {vs : List Value} {k : Int} {u : Tok} {Q : Value → Shared → Prop} (hl : s.heap.IsList l vs.toArray)
    (h0 : 0 ≤ k) (h1 : k < (vs.length : Int)) (hz : vs.length ≤ 16777216) (h : ∀ v, vs[k.toNat]? = some v → Q v s)
    (hs : subscripted slice false (.ref l) (.int k u) = operate [.ref l, .int k u] (getItem (.ref l) (.int k u))) :
    wpAny (model prog w) A (subscriptTail value slice (.ref l) (.int k u)) Q E s := by
  have hlt : k.toNat < vs.length := by omega
  exact tail_any hl.typeIs slot_list_getitem.lookup (wpAny_getItem_list hl h0 (by omega) (x := vs[k.toNat]) (by simp [hlt]) (h _ (by simp [hlt]))) hs
end
noncomputable def IsPair (h : Heap) (v : Value) (gt : Int) (row : List Bool) : Prop := ∃ p t ra, v = .ref p ∧ IsTup h p #[.int gt t, .ref ra] ∧ h.IsList ra (row.map Value.bool).toArray

theorem IsPair.stays {h h' : Heap} {v : Value} {gt : Int} {row : List Bool} (K : h.StaysIn h') (x : IsPair h v gt row) : IsPair h' v gt row :=
  let ⟨p, t, ra, e, a, b⟩ := x; ⟨p, t, ra, e, stay_tup K a, stay_list K b⟩
theorem ne_dict_list {h : Heap} {a c : Addr} {o : Obj} {xs : Array Value} (ha : h.get? a = some o) (oc : o.cls = .type "dict") (hc : h.IsList c xs) : c ≠ a := by
  rintro rfl
  obtain ⟨o', e1, e2, _⟩ := hc
  rw [ha] at e1; cases e1; rw [oc] at e2; exact absurd e2 (by decide)
theorem ne_dict_tup {h : Heap} {a c : Addr} {o : Obj} {xs : Array Value} (ha : h.get? a = some o) (oc : o.cls = .type "dict") (hc : IsTup h c xs) : c ≠ a := by
  rintro rfl
  obtain ⟨o', e1, e2, _⟩ := hc
  rw [ha] at e1; cases e1; rw [oc] at e2; exact absurd e2 (by decide)
theorem IsPair.keep1 {h h' : Heap} {a : Addr} {o : Obj} {v : Value} {gt : Int} {row : List Bool} (K : Keep [a] h h') (ha : h.get? a = some o) (oc : o.cls = .type "dict") (x : IsPair h v gt row) : IsPair h' v gt row :=
  let ⟨p, t, ra, e, a', b⟩ := x
  ⟨p, t, ra, e, keep_tup K (by simpa using ne_dict_tup ha oc a') a', keep_list K (by simpa using ne_dict_list ha oc b) b⟩
theorem dict_cls {prog : Program} {w : World} {K : Type} [DecidableEq K] {knd : KeyKind prog w K} {o : Obj} {kvs : List (K × Value)} (hd : o.IsDictOf knd kvs) : o.cls = .type "dict" := by obtain ⟨es, ep, hh, _⟩ := hd; exact hh.1
section
variable {prog : Program} {w : World} {A : Around} {E : Value → Shared → Prop} {s : Shared}
theorem item_bools {value slice : PySem.Expr} {l : Addr} {bs : List Bool} {k : Int} {u : Tok} {Q : Value → Shared → Prop} (hl : s.heap.IsList l (bs.map Value.bool).toArray)
    (h0 : 0 ≤ k) (h1 : k < (bs.length : Int)) (hz : bs.length ≤ 16777216) (h : Q (.bool (bs.getD k.toNat false)) s)
    (hs : subscripted slice false (.ref l) (.int k u) = operate [.ref l, .int k u] (getItem (.ref l) (.int k u))) :
    wpAny (model prog w) A (subscriptTail value slice (.ref l) (.int k u)) Q E s := by
  refine item_G hl h0 (by rw [List.length_map]; exact h1) (by rw [List.length_map]; exact hz) (fun v hv => ?_) hs
  have hlt : k.toNat < bs.length := by omega
  have e : v = .bool (bs.getD k.toNat false) := by
    rw [List.getElem?_map, List.getElem?_eq_getElem hlt] at hv
    cases hv
    rw [List.getD_eq_getElem?_getD, List.getElem?_eq_getElem hlt]; rfl
  rw [e]; exact h
end
section
variable {prog : Program} {w : World} {A : Around} {E : Value → Shared → Prop} {s : Shared}
noncomputable def isB (b : Bool) : Value → Bool
  | .bool x => x == b
  | _ => false
theorem eq_isB (b : Bool) (bs : List Bool) : ∀ y, y ∈ (bs.map Value.bool).toArray → MeetsSeq.EqGives y (.bool b) (isB b y) := by
  intro y hy
  have hy' : y ∈ bs.map Value.bool := by simpa using hy
  obtain ⟨x, _, rfl⟩ := List.mem_map.mp hy'
  exact fun prog w A E s Q h => PySem.SeqAt.EqAt.bool_bool (A := A) (s := s) x b prog w E Q h
theorem any_isB (b : Bool) (bs : List Bool) : ((bs.map Value.bool).toArray.any (isB b)) = bs.contains b := by
  rw [List.any_toArray, List.any_map, List.contains_eq_any_beq]
  congr 1
  funext x
  show (x == b) = (b == x)
  cases x <;> cases b <;> rfl
theorem in_bools {l : Addr} {bs : List Bool} {b : Bool} {Q : Value → Shared → Prop} (hl : s.heap.IsList l (bs.map Value.bool).toArray) (h : Q (.bool (bs.contains b)) s) : wpAny (model prog w) A (compareOp .In (.bool b) (.ref l)) Q E s :=
  SeqInW.in_listW (isB b) (eq_isB b bs) hl (by rw [any_isB]; exact h)
theorem notin_bools {l : Addr} {bs : List Bool} {b : Bool} {Q : Value → Shared → Prop} (hl : s.heap.IsList l (bs.map Value.bool).toArray) (h : Q (.bool (!bs.contains b)) s) : wpAny (model prog w) A (compareOp .NotIn (.bool b) (.ref l)) Q E s :=
  SeqInW.notIn_listW (isB b) (eq_isB b bs) hl (by rw [any_isB]; exact h)
end
section
variable {prog : Program} {w : World} {A : Around} {E : Value → Shared → Prop} {s : Shared}
theorem len_A {l : Addr} {xs : Array Value} {Q : Value → Shared → Prop} (hl : s.heap.IsList l xs) (hz : xs.size ≤ 16777216) (h : Q (.int (xs.size : Int) (s.toks + 1)) { s with toks := s.toks + 1 + 1 }) :
    wpAny (model prog w) A (call (.builtin "len") [.ref l]) Q E s := len_list hl (by omega) h
end
end Mine
end
section
theorem Mine.topOffNuComp : True := by
  w_top off
  k_with_none
  trivial
set_option linter.all false
open PySem PySem.W PyProof.Rows PySem.Calls PyProof.V PySem.Spec
set_option maxRecDepth 100000
namespace Mine
/-- a walk that never looks beyond its facts -/
noncomputable def Stop (p : Prop) : Prop := p
theorem stop_intro {p : Prop} (h : Stop p) : p := h
section
variable {prog : Program} {w : World} {A : Around} {E : Value → Shared → Prop} {s : Shared}

/-- an iterable: the new iterator, what it gives, and the objects it looks at -/
noncomputable def Iterates (prog : Program) (w : World) (A : Around) (s₁ : Shared) (xv : Value) (n : Nat) (P : Nat → Value → Prop) (srcs : List Addr) : Prop :=
  ∀ (Q E : Value → Shared → Prop), (∀ (o : Obj) (St : Nat → Heap → Prop), Walks prog w A s₁.heap.objs.size (s₁.heap.objs.size :: srcs) [s₁.heap.objs.size] n P St → St 0 (s₁.heap.push o) → (∀ b ∈ srcs, ∃ ob, s₁.heap.get? b = some ob) →
    (∀ i h, St i h → ∃ oI, h.get? s₁.heap.objs.size = some oI ∧ ∀ items k, oI.data ≠ .seq items k) → o.isFreed = false →
    (∀ (target : Expr) i v (s : Shared) (Q : Unit → Shared → Prop) (E : Value → Shared → Prop), P i v → St (i + 1) s.heap → Q () s → wpAny (model prog w) A (letOwnedTupleGo target (.ref s₁.heap.objs.size) v) Q E s) → Q (.ref s₁.heap.objs.size) { s₁ with heap := s₁.heap.push o }) → wpAny (model prog w) A (pyIter xv) Q E s₁

theorem iter_list {l : Addr} {items : Array Value} (hh : A.handled = none) (hl : s.heap.IsList l items) : Iterates prog w A s (.ref l) items.size (fun i v => items[i]? = some v) [l] := fun Q E hQ => by
  obtain ⟨ol, hol, _⟩ := id hl
  have hlt : l < s.heap.objs.size := Heap.lt_size hol
  refine wpAny_pyIter_list hl (hQ _ _ (Walks.list hh s.heap.objs.size l (Nat.ne_of_lt hlt) items) ⟨⟨_, Heap.get?_push_size _ rfl, rfl, rfl⟩, hl.push _⟩ (fun b hb => ?_) (fun i h st => ?_) rfl (fun target i v s Q E hP st q => ?_))
  · rw [List.mem_singleton.mp hb]; exact ⟨ol, hol⟩
  · obtain ⟨o, e, _, d⟩ := st.1; exact ⟨o, e, fun items k q => by simp_all⟩
  · exact letGo_listiter st.1 q
theorem iter_tup {l : Addr} {items : Array Value} (hh : A.handled = none) (hl : IsTup s.heap l items) : Iterates prog w A s (.ref l) items.size (fun i v => items[i]? = some v) [l] := fun Q E hQ => by
  have hl' : s.heap.IsTuple l items := hl
  obtain ⟨ol, hol, _⟩ := id hl
  have hlt : l < s.heap.objs.size := Heap.lt_size hol
  refine wpAny_pyIter_tuple hl' (hQ _ _ (Walks.tuple hh s.heap.objs.size l (Nat.ne_of_lt hlt) items) ⟨⟨_, Heap.get?_push_size _ rfl, rfl, rfl⟩, hl'.at fun o e => Heap.get?_push_of_some _ e⟩ (fun b hb => ?_) (fun i h st => ?_) rfl (fun target i v s Q E hP st q => ?_))
  · rw [List.mem_singleton.mp hb]; exact ⟨ol, hol⟩
  · obtain ⟨o, e, _, d⟩ := st.1; exact ⟨o, e, fun items k q => by simp_all⟩
  · exact letGo_tupleiter st.1 q
theorem iter_seq {g : Heap} {l : Addr} {items : Array Value} (hh : A.handled = none) (k : ∀ b o, g.get? b = some o → s.heap.get? b = some o) (h : g.IsList l items ∨ IsTup g l items) : Iterates prog w A s (.ref l) items.size (fun i v => items[i]? = some v) [l] :=
  h.elim (fun h => iter_list hh (stay_list k h)) (fun h => iter_tup hh (stay_tup k h))
theorem iter_range {r : Addr} {b : Int} {t u v : Tok} {n : Nat} (hh : A.handled = none) (hr : IsRange s.heap r 0 b 1 t u v) (hsmall : Builtin.Range.small 0 b 1 = true) (hn : Builtin.Range.rangeSize 0 b 1 = (n : Int)) :
    Iterates prog w A s (.ref r) n (fun i v => ∃ t, v = .int (i : Int) t) [] := fun Q E hQ => by
  refine wpAny_pyIter_range hr hsmall ?_
  have W : Walks prog w A s.heap.objs.size [s.heap.objs.size] [s.heap.objs.size] n (fun i v => ∃ t, v = .int (i : Int) t) (fun i h => IsRangeIter h s.heap.objs.size (0 + (i : Nat) * 1) ((n : Int) - (i : Nat)) 1) := by
    have W := Walks.range (prog := prog) (w := w) hh s.heap.objs.size 0 1 n
    exact { sub := W.sub, frame := W.frame, done := W.done, self := W.self, item := fun i s Q E hi st hQ => W.item i s Q E hi st fun v h' tk hP => hQ v h' tk (by obtain ⟨t, rfl⟩ := hP; exact ⟨t, by rw [Int.mul_one, Int.zero_add]⟩) }
  refine hQ _ _ W ?_ (fun b hb => nomatch hb) (fun i h st => ⟨_, st, fun items k q => by cases q⟩) rfl (fun target i v s Q E hP st q => ?_)
  rotate_left
  · obtain ⟨t, rfl⟩ := hP
    cases target <;> exact wpAny_pure q
  show IsRangeIter _ _ _ _ _
  rw [hn]
  simpa using Heap.get?_push_size _ rfl

/-- what the element of a comprehension gives, whatever it finds beyond s₁ -/
noncomputable def Elts (prog : Program) (w : World) (A : Around) (env : Env) (scope : Scope) (cl : List (Str × Addr)) (x : Str) (elt : Expr) (P : Nat → Value → Prop) (p : Value → Bool) (F : Value → Value → Prop) (s₁ : Shared) : Prop :=
  ∀ C i v s₃ m₃ E', s₁.heap.objs.size ≤ C → P i v → p v = true → s₃.heap.Ns C m₃ → m₃ x = some v → s₁.heap.StaysIn s₃.heap → wpAny (model prog w) A (eval elt (compEnvC scope cl C env)) (fun y s₄ => Stop (F v y ∧ Keeps s₃ s₄)) E' s₃
noncomputable def Tests (prog : Program) (w : World) (A : Around) (env : Env) (scope : Scope) (cl : List (Str × Addr)) (x : Str) (ifs : List Expr) (P : Nat → Value → Prop) (p : Value → Bool) (s₁ : Shared) : Prop :=
  ∀ C i v s₃ m₃ E', s₁.heap.objs.size ≤ C → P i v → s₃.heap.Ns C m₃ → m₃ x = some v → s₁.heap.StaysIn s₃.heap →
    wpAny (model prog w) A (forIn ifs true fun c r => if r = true then do let ok ← isTrue c (compEnvC scope cl C env) (eval c (compEnvC scope cl C env)); pure (ForInStep.yield ok) else pure (ForInStep.yield r)) (fun ok s₄ => ok = p v ∧ Keeps s₃ s₄) E' s₃
theorem tests_none {env : Env} {scope : Scope} {cl : List (Str × Addr)} {x : Str} {P : Nat → Value → Prop} {s₁ : Shared} : Tests prog w A env scope cl x [] P (fun _ => true) s₁ :=
  fun _ _ _ s₃ _ _ _ _ _ _ _ => wpAny_tests_nil ⟨rfl, s₃.heap, s₃.toks, rfl, fun _ _ e => e⟩

theorem comp_pure {env : Env} {elt iter : Expr} {x : Str} {px : Pos} {ifs : List Expr} {scope : Scope} {cl : List (Str × Addr)} {pos : Pos} {Q : Value → Shared → Prop} (p : Value → Bool) (F : Value → Value → Prop)
    (hclos : closureFor scope env = pure cl) (hcell : ∀ y ∈ scope.names, y.2 ≠ .cell) (hkind : scope.kind = .function)
    (hnames : ∀ y ∈ scope.names, y.2 = .local → scope.names.lookup y.1 = some .local) (hx : scope.names.lookup x = some .local)
    (h : wpAny (model prog w) A (eval iter env) (fun xv s₁ => ∃ n P srcs, Iterates prog w A s₁ xv n P srcs ∧ n ≤ sizeLine ∧ Tests prog w A env scope cl x ifs P p s₁ ∧ Elts prog w A env scope cl x elt P p F s₁ ∧
      (∀ D h' tk ys (vs : List Value), s₁.heap.get? D = none → h'.PlainList D ys → vs.length = n → (∀ j v, vs[j]? = some v → P j v) → Paired F (vs.filter p) ys.toList → s₁.heap.StaysIn h' → Q (.ref D) { s₁ with heap := h', toks := tk })) E s)
    (hs : ∀ x, foldedSetIterable iter env x = pure x) :
    wpAny (model prog w) A (eval (.ListComp elt [⟨.Name x px, iter, ifs, 0⟩] scope pos) env) Q E s := by
  refine wpAny_ListComp_free p F hclos hcell hkind hnames hx (wpAny_mono h (fun xv s₁ h₁ => ?_) fun _ _ e => e) hs
  obtain ⟨n, P, srcs, It, hsz, hT, hE, hQ⟩ := h₁
  refine It _ _ fun o St W st hsr hI hf _ => ?_
  have up : s₁.heap.StaysIn (s₁.heap.push o) := fun b ob e => Heap.get?_push_of_some _ e
  have off : ∀ b ob, s₁.heap.get? b = some ob → b ∉ [s₁.heap.objs.size] := fun b ob e hm => absurd (Heap.lt_size e) ((List.mem_singleton.mp hm) ▸ Nat.lt_irrefl _)
  refine ⟨_, _, _, n, P, St, rfl, W, hsz, st, fun b hb => ?_, ⟨?_, ?_⟩, ?_⟩
  · show b < (s₁.heap.push o).objs.size
    rw [Heap.size_push]
    rcases List.mem_cons.mp hb with rfl | hb
    · exact Nat.lt_succ_self _
    · obtain ⟨ob, e⟩ := hsr b hb; exact Nat.lt_succ_of_lt (Heap.lt_size e)
  · intro C i v s₃ m₃ E' hC hP hn hm hk _
    have hC' : s₁.heap.objs.size + 1 ≤ C := by have : (s₁.heap.push o).objs.size ≤ C := hC; rwa [Heap.size_push] at this
    exact hT C i v s₃ m₃ E' (Nat.le_of_succ_le hC') hP hn hm fun b ob e => hk b ob (off b ob e) (up b ob e)
  · intro C i v s₃ m₃ E' hC hP hp hn hm hk _
    have hC' : s₁.heap.objs.size + 1 ≤ C := by have : (s₁.heap.push o).objs.size ≤ C := hC; rwa [Heap.size_push] at this
    exact hE C i v s₃ m₃ E' (Nat.le_of_succ_le hC') hP hp hn hm fun b ob e => hk b ob (off b ob e) (up b ob e)
  · intro D h' tk ys vs hD hl hpl hlen hP hF hk
    refine hQ D h' tk ys vs ?_ hpl hlen hP hF fun b ob e => hk b ob (off b ob e) (up b ob e)
    have hD' : (s₁.heap.push o).get? D = none := hD
    cases q : s₁.heap.get? D with
    | none => rfl
    | some ob => rw [up D ob q] at hD'; cases hD'

/-- a comprehension whose elements leave the heap's own objects alone, as a step of the walk -/
theorem comp_K {g : Heap} {L : Addr} {m : Str → Option Value} {news : List (Addr × Obj)} {env : Env} {elt iter : Expr} {x : Str} {px : Pos} {ifs : List Expr} {scope : Scope} {cl : List (Str × Addr)} {pos : Pos} {Q : Value → Shared → Prop} (_F : Fr g L s.heap m) (_N : News g L s.heap news) (p : Value → Bool) (F : Value → Value → Prop)
    (hclos : closureFor scope env = pure cl) (hcell : ∀ y ∈ scope.names, y.2 ≠ .cell) (hkind : scope.kind = .function)
    (hnames : ∀ y ∈ scope.names, y.2 = .local → scope.names.lookup y.1 = some .local) (hx : scope.names.lookup x = some .local)
    (h : wpAny (model prog w) A (eval iter env) (fun xv s₁ => Stop (∃ n P srcs, Fr g L s₁.heap m ∧ News g L s₁.heap news ∧ Iterates prog w A s₁ xv n P srcs ∧ n ≤ sizeLine ∧ Tests prog w A env scope cl x ifs P p s₁ ∧ Elts prog w A env scope cl x elt P p F s₁ ∧
      (∀ D h' tk ys k (vs : List Value), Fr g L h' m → News g L h' ((D, { cls := .type "list", data := .seq ys.toArray k }) :: news) → (∀ p ∈ news, p.1 ≠ D) → vs.length = n → (∀ j v, vs[j]? = some v → P j v) → Paired F (vs.filter p) ys → s₁.heap.StaysIn h' → Q (.ref D) { s₁ with heap := h', toks := tk }))) E s)
    (hs : ∀ x, foldedSetIterable iter env x = pure x) :
    wpAny (model prog w) A (eval (.ListComp elt [⟨.Name x px, iter, ifs, 0⟩] scope pos) env) Q E s := by
  refine comp_pure p F hclos hcell hkind hnames hx (wpAny_mono h (fun xv s₁ h₁ => ?_) fun _ _ e => e) hs
  obtain ⟨n, P, srcs, Fm, N, It, hsz, hT, hE, hQ⟩ := h₁
  refine ⟨n, P, srcs, It, hsz, hT, hE, fun D h' tk ys vs hD hpl hlen hP hF st => ?_⟩
  obtain ⟨k, e⟩ := hpl
  have hDL : D ≠ L := by rintro rfl; obtain ⟨o, _, _, ho, _⟩ := Fm.ns; rw [hD] at ho; cases ho
  have hDg : g.get? D = none := by
    cases q : g.get? D with
    | none => rfl
    | some o => rw [Fm.keep D o q] at hD; cases hD
  refine hQ D h' tk ys.toList k vs (Fm.keeps st) (fun p hp => ?_) (fun p hp q => ?_) hlen hP hF st
  · rcases List.mem_cons.mp hp with rfl | hp
    · exact ⟨e, hDL, hDg⟩
    · exact ⟨st _ _ (N p hp).1, (N p hp).2⟩
  · have z := (N p hp).1
    rw [q, hD] at z; cases z
end

theorem name_loc {M : Model} {env : Env} {m : Str → Option Value} {x : Str} {pos : Pos} {v : Value} {Q : Value → Shared → Prop} (hn : s.heap.Ns env.locals m) (hv : m x = some v) (hk : env.scope.kind = .function) (hl : env.kindOf x = some .local) (hd : (x == ("__debug__" : Str)) = false) (h : Q v s) :
    wpAny M A (eval (.Name x pos) env) Q E s := wpAny_Name (wpAny_loadName_local hk hl hn hv h) hd
theorem name_cell {M : Model} {env : Env} {x : Str} {pos : Pos} {c : Addr} {v : Value} {Q : Value → Shared → Prop} (hk : env.scope.kind = .function) (hl : env.kindOf x = some .cell) (hc : env.cells.lookup x = some c) (ho : ∃ o, s.heap.get? c = some o ∧ o.data = .cell (some v)) (hd : (x == ("__debug__" : Str)) = false) (h : Q v s) :
    wpAny M A (eval (.Name x pos) env) Q E s := wpAny_Name (wpAny_loadName_cell hk hl hc ho h) hd
theorem name_blt {env : Env} {mean : ExcName → Option Value} {mg mb : Str → Option Value} {x : Str} {pos : Pos} {v : Value} {Q : Value → Shared → Prop} (X : (Mine.kx.heap_1 w.params).In s.heap) (T : Top Mine.vw [] mean mg mb s.heap) (e : nsIn (Mine.kx.heap_1 w.params) mainGlobals x = some none) (hv : bootBuiltins x = some v) (hn : x ≠ "__name__")
    (hk : env.scope.kind = .function) (hl : env.kindOf x = some .globalImplicit) (hg : env.globals = mainGlobals) (hb : env.builtins = builtinsNs) (hd : (x == ("__debug__" : Str)) = false) (h : Q v s) :
    wpAny (model prog w) A (eval (.Name x pos) env) Q E s := Name_function_global hk hl (loadGlobal_builtin (env := env) (by rw [hg]; exact T.g) (mg_none_of X T.g e) (by rw [hb]; exact T.b) ((T.builtins x hn).trans hv) h) hd
theorem paired_not : ∀ {row : List Bool} {ys : List Value}, Paired (fun (v y : Value) => ∃ b, v = .bool b ∧ y = .bool (!b)) (row.map Value.bool) ys → ys = (row.map not).map Value.bool
  | [], ys, h => by cases h; rfl
  | b :: row, ys, h => by
    cases h with
    | cons h1 h2 =>
      obtain ⟨b', e1, e2⟩ := h1
      cases e1
      rw [e2, paired_not h2]; rfl
theorem filter_true (l : List Value) : l.filter (fun _ => true) = l := List.filter_eq_self.mpr fun _ _ => rfl
end Mine
end
section
theorem Mine.topOffNuFor : True := by
  w_top off
  k_with_none
  trivial
set_option linter.all false
open PySem PySem.W PyProof.Rows PySem.Calls PyProof.V PySem.Spec
set_option maxRecDepth 100000
namespace Mine
section
variable {prog : Program} {w : World} {A : Around} {E : Value → Shared → Prop} {s : Shared}

/-- the end of a turn of a loop -/
noncomputable def TurnPost (g : Heap) (L I : Addr) (oI : Obj) (J' : (Str → Option Value) → List (Addr × Obj) → Prop) (s₁ : Shared) (Q : Flow → Shared → Prop) (fl : Flow) (s' : Shared) : Prop :=
  match fl with
  | .ret v => Q (.ret v) s'
  | .brk => Q .next s'
  | _ => Stop (∃ h' tk m' news', s' = { s₁ with heap := h', toks := tk } ∧ Fr g L h' m' ∧ News g L h' ((I, oI) :: news') ∧ (∀ p ∈ news', p.1 ≠ I) ∧ J' m' news')

theorem TurnPost.next {g : Heap} {L I : Addr} {oI : Obj} {J' : (Str → Option Value) → List (Addr × Obj) → Prop} {s₁ : Shared} {Q : Flow → Shared → Prop} {h' : Heap} {tk : Nat} {m' : Str → Option Value} {news all : List (Addr × Obj)}
    (F : Fr g L h' m') (N : News g L h' all) (hI : (I, oI) ∈ all) (hn : ∀ p ∈ news, p ∈ all) (off : ∀ p ∈ news, p.1 ≠ I) (J : J' m' news) : TurnPost g L I oI J' s₁ Q .next { s₁ with heap := h', toks := tk } :=
  ⟨h', tk, m', news, rfl, F, fun p hp => by rcases List.mem_cons.mp hp with rfl | hp; exact N _ hI; exact N _ (hn p hp), off, J⟩
noncomputable def Loop (prog : Program) (w : World) (A : Around) (g : Heap) (env : Env) (target : Expr) (body : List Stmt) (J : Nat → (Str → Option Value) → List (Addr × Obj) → Prop) (Q : Flow → Shared → Prop) (E : Value → Shared → Prop) (xv : Value) (s₁ : Shared) : Prop :=
  ∃ n P srcs m news, Iterates prog w A s₁ xv n P srcs ∧ Fr g env.locals s₁.heap m ∧ News g env.locals s₁.heap news ∧ J 0 m news ∧
    (∀ b ∈ srcs, (∃ o, g.get? b = some o) ∨ ∃ o, ∀ i m' news', J i m' news' → (b, o) ∈ news') ∧
    (∀ i v m₁ news₁ h tk I oI, i < n → P i v → J i m₁ news₁ → (∀ p ∈ news₁, p.1 ≠ I) → Fr g env.locals h m₁ → News g env.locals h ((I, oI) :: news₁) → (∀ items k, oI.data ≠ .seq items k) →
      wpAny (model prog w) A (assign target env v) (fun _ s₂ => wpAny (model prog w) A (execs body env) (TurnPost g env.locals I oI (J (i + 1)) s₁ Q) E s₂) E { s₁ with heap := h, toks := tk }) ∧
    (∀ h tk m' news', Fr g env.locals h m' → News g env.locals h news' → J n m' news' → Q .next { s₁ with heap := h, toks := tk })

theorem for_K {g : Heap} {env : Env} {target iter : Expr} {body : List Stmt} {pos : Pos} {Q : Flow → Shared → Prop} {m : Str → Option Value} (F₀ : Fr g env.locals s.heap m) (J : Nat → (Str → Option Value) → List (Addr × Obj) → Prop)
    (h : wpAny (model prog w) A (eval iter env) (fun xv s₁ => Stop (Loop prog w A g env target body J Q (fun _ _ => False) xv s₁)) (fun _ _ => False) s)
    (hs : ∀ x, foldedSetIterable iter env x = pure x) :
    wpAny (model prog w) A (exec (.For target iter body [] pos) env) Q (fun _ _ => False) s := by
  refine For_turns (h₀ := g) F₀ (wpAny_mono h (fun xv s₁ h₁ => ?_) fun _ _ e => e) hs PassesOwn.never
  obtain ⟨n, P, srcs, m, news, It, Fm, N, h0, hsr, step, done⟩ := h₁
  refine It _ _ fun o St W st hso hI hf hgo => ?_
  have up : s₁.heap.StaysIn (s₁.heap.push o) := fun b ob e => Heap.get?_push_of_some _ e
  have new : ∀ p ∈ news, p.1 ≠ s₁.heap.objs.size := fun p hp => Nat.ne_of_lt (Heap.lt_size (N p hp).1)
  have LI : env.locals ≠ s₁.heap.objs.size := Nat.ne_of_lt Fm.ns.lt
  have gI : g.get? s₁.heap.objs.size = none := next_is_new Fm
  refine ⟨s₁.heap.objs.size, _, _, n, (fun i v _ => P i v), (fun i v h => P i v ∧ St (i + 1) h), St, m, news, (fun i m' news' => J i m' news'), rfl, { sub := W.sub, frame := W.frame, item := fun i s Q E hi st hQ => W.item i s Q E hi st fun v h' tk hP st' hk => hQ v h' tk (And.intro hP st') hk, go := fun i v s Q E hm hQ => hgo target i v s Q E hm.1 hm.2 (hQ s.heap hm.1 hm.2 fun _ _ _ e => e), done := W.done }, ?_, ?_, ?_, st, Fm.keeps up, fun p hp => ⟨up _ _ (N p hp).1, (N p hp).2⟩, h0, ?_, ?_⟩
  · intro hm
    rcases List.mem_cons.mp hm with e | hm
    · exact LI e
    · rcases hsr _ hm with ⟨ob, hb⟩ | ⟨ob, hb⟩
      · exact absurd (Heap.lt_size hb) (Nat.not_lt.mpr Fm.above)
      · exact (N _ (hb _ _ _ h0)).2.1 rfl
  · intro b hb; rw [List.mem_singleton.mp hb]; exact gI
  · intro p hp hm; exact new p hp (List.mem_singleton.mp hm)
  · intro i v m₁ news₁ h₁ tk₁ own hi hP hJ hoff hown hget hall hst F₁ N₁
    obtain ⟨oI, eI, dI⟩ := hI _ _ hst
    have hIown : (s₁.heap.objs.size, oI) ∈ own := hall _ (.head _) gI _ eI
    have N₂ : News g env.locals h₁ ((s₁.heap.objs.size, oI) :: news₁) := fun p hp => by
      rcases List.mem_cons.mp hp with rfl | hp
      · exact N₁ _ (List.mem_append_left _ hIown)
      · exact N₁ _ (List.mem_append_right _ hp)
    have off : ∀ p ∈ news₁, p.1 ≠ s₁.heap.objs.size := fun p hp e => hoff p hp (by rw [e]; exact List.mem_singleton.mpr rfl)
    refine wpAny_mono (step i v m₁ news₁ h₁ tk₁ _ oI hi hP hJ off F₁ N₂ dI) (fun _ s₂ h₂ => wpAny_mono h₂ (fun fl s₃ h₃ => ?_) fun _ _ e => e) fun _ _ e => e
    have fin : Stop (∃ h' tk m' news', s₃ = { s₁ with heap := h', toks := tk } ∧ Fr g env.locals h' m' ∧ News g env.locals h' ((s₁.heap.objs.size, oI) :: news') ∧ (∀ p ∈ news', p.1 ≠ s₁.heap.objs.size) ∧ J (i + 1) m' news') →
        LoopStepU g env.locals [s₁.heap.objs.size] own (fun m' news' => J (i + 1) m' news') { s₁ with heap := h₁, toks := tk₁ } .next s₃ := by
      rintro ⟨h', tk, m', news', rfl, F', N', off', hJ'⟩
      refine ⟨rfl, h', tk, m', news', rfl, F', fun p hp => ?_, fun p hp hm => off' p hp (List.mem_singleton.mp hm), hJ'⟩
      rcases List.mem_append.mp hp with hp | hp
      · have hpf := hown p hp
        have hpg := hget p hp
        rcases List.mem_cons.mp hpf with e | hsrc
        · have : p = (s₁.heap.objs.size, oI) := by
            obtain ⟨pa, po⟩ := p
            have e' : pa = s₁.heap.objs.size := e
            subst e'
            have hpg' : h₁.get? s₁.heap.objs.size = some po := hpg
            rw [eI] at hpg'
            cases hpg'; rfl
          rw [this]; exact N' _ (.head _)
        · rcases hsr _ hsrc with ⟨ob, hb⟩ | ⟨ob, hb⟩
          · have := (N₁ p (List.mem_append_left _ hp)).2.2
            rw [hb] at this; cases this
          · have h1 := (N₁ _ (List.mem_append_right _ (hb _ _ _ hJ))).1
            have h2 : p.2 = ob := by
              have h1' : h₁.get? p.1 = some ob := h1
              rw [hpg] at h1'; exact Option.some.inj h1'
            have h3 := N' _ (List.mem_cons_of_mem _ (hb _ _ _ hJ'))
            obtain ⟨pa, po⟩ := p
            have h2' : po = ob := h2
            subst h2'
            exact h3
      · exact N' _ (List.mem_cons_of_mem _ hp)
    cases fl with
    | ret v => exact .ret h₃
    | brk => exact .brk h₃
    | next => exact .next (fin h₃)
    | cont => exact .cont (fin h₃)
  · intro h' tk m' news' F' N' _ hJ
    exact done h' tk m' news' F' N' hJ
end
theorem upd2_eq (m : Str → Option Value) (x y : Str) : m = fun z => if z = x then m x else if z = y then m y else m z := by
  funext z
  by_cases h : z = x
  · rw [if_pos h, h]
  · rw [if_neg h]
    by_cases h2 : z = y
    · rw [if_pos h2, h2]
    · rw [if_neg h2]
theorem upd1_eq (m : Str → Option Value) (x : Str) : m = fun z => if z = x then m x else m z := by
  funext z
  by_cases h : z = x
  · rw [if_pos h, h]
  · rw [if_neg h]
theorem upd1_shadow (m : Str → Option Value) (x : Str) (u b : Option Value) : (fun z => if z = x then u else if z = x then b else m z) = fun z => if z = x then u else m z := by
  funext z
  by_cases h : z = x <;> simp [h]
theorem upd2_shadow (m : Str → Option Value) (x y : Str) (u v b a : Option Value) : (fun z => if z = x then u else if z = y then v else if z = x then b else if z = y then a else m z) = fun z => if z = x then u else if z = y then v else m z := by
  funext z
  by_cases h : z = x
  · simp [h]
  · by_cases h2 : z = y <;> simp [h, h2]
theorem getD_take_succ {xs : List Int} {i : Nat} (h : i < xs.length) : xs.take (i + 1) = xs.take i ++ [xs.getD i 0] := by
  rw [List.take_add_one, List.getD_eq_getElem?_getD, List.getElem?_eq_getElem h]; rfl
theorem getD_not_take {xs : List Int} {i : Nat} (h : i < xs.length) (hn : xs.Nodup) : xs.getD i 0 ∉ xs.take i := by
  rw [List.getD_eq_getElem?_getD, List.getElem?_eq_getElem h]
  intro hm
  obtain ⟨j, hj, e⟩ := List.mem_iff_getElem.mp hm
  rw [List.length_take] at hj
  rw [List.getElem_take] at e
  have : j = i := (List.getElem_inj hn).mp e
  omega
end Mine
end
section
theorem Mine.topOffNuCirc : True := by
  w_top off
  k_with_none
  trivial
set_option linter.all false
open PySem PySem.W PyProof.Rows PySem.Calls PyProof.V PySem.Spec
set_option maxRecDepth 100000
namespace Mine
inductive Node
  | junk | tru | inp
  | conj (ps : List Int)
noncomputable def Node.kind : Node → Str
  | .junk => Str.ofString ""
  | .tru => Str.ofString "true"
  | .inp => Str.ofString "input"
  | .conj _ => Str.ofString "and"
noncomputable def Node.parts : Node → List Int
  | .conj ps => ps
  | _ => []

/-- where a circuit lies -/
structure CA where
  ci : Addr
  cd : Addr
  ck : Addr
  cp : Addr
  cn : Addr

noncomputable abbrev iK (w : World) := PySem.intKind PySem.Challenge.rw_nu0266_01.row.prog w
noncomputable abbrev circDict (P : Params) (a : CA) (t1 t2 t3 : Tok) (n : Nat) : Obj :=
  dictOf [⟨PyData.keyHash P (Str.ofString "kinds"), .str (Str.ofString "kinds") t1, .ref a.ck⟩, ⟨PyData.keyHash P (Str.ofString "parts_now"), .str (Str.ofString "parts_now") t2, .ref a.cp⟩, ⟨PyData.keyHash P (Str.ofString "known"), .str (Str.ofString "known") t3, .ref a.cn⟩] n

noncomputable def PartOf (w : World) (h : Heap) (v : Value) (nd : Node) : Prop := ∃ t, v = .ref t ∧ IsTupleKey (iK w) h nd.parts t

structure IsCirc (w : World) (h : Heap) (a : CA) (ns : List Node) (kn : List (List Int × Addr × Value)) : Prop where
  inst : ∃ t1 t2 t3 n, InstAt h a.ci (instObj 127 a.cd) 127 (some (circDict w.params a t1 t2 t3 n))
  kinds : ∃ kvs n, h.get? a.ck = some (listOf kvs.toArray n) ∧ StrsAre kvs (ns.map Node.kind)
  parts : ∃ pvs n, h.get? a.cp = some (listOf pvs.toArray n) ∧ Paired (PartOf w h) pvs ns
  known : h.DictOfH (tupleKind (iK w)) a.cn kn
  ne : a.ck ≠ a.cp
  ne2 : a.cd ≠ a.cn
  lo : (a.cn == sysModules) = false

theorem inst_stay {h h' : Heap} {x C : Addr} {ox : Obj} {od : Option Obj} (k : h.StaysIn h') (I : InstAt h x ox C od) : InstAt h' x ox C od := by
  obtain ⟨a, b, c, d⟩ := I
  refine ⟨k _ _ a, b, c, ?_⟩
  revert d
  cases ox.dict <;> cases od <;> first | exact id | exact fun d => k _ _ d
theorem inst_keep {M : List Addr} {h h' : Heap} {x C d : Addr} {ox od : Obj} (k : Keep M h h') (nx : x ∉ M) (nd : d ∉ M) (hd : ox.dict = some d) (I : InstAt h x ox C (some od)) : InstAt h' x ox C (some od) := by
  obtain ⟨a, b, c, e⟩ := I
  refine ⟨k _ _ nx a, b, c, ?_⟩
  rw [hd] at e ⊢
  exact k _ _ nd e
theorem tkey_stay {w : World} {h h' : Heap} {ks : List Int} {t : Addr} (k : h.StaysIn h') (x : IsTupleKey (iK w) h ks t) : IsTupleKey (iK w) h' ks t := let ⟨o, i, n, e, r⟩ := x; ⟨o, i, n, k _ _ e, r⟩
theorem tkey_keep {w : World} {M : List Addr} {h h' : Heap} {ks : List Int} {t : Addr} (k : Keep M h h') (n : t ∉ M) (x : IsTupleKey (iK w) h ks t) : IsTupleKey (iK w) h' ks t := let ⟨o, i, m, e, r⟩ := x; ⟨o, i, m, k _ _ n e, r⟩
theorem PartOf.stay {w : World} {h h' : Heap} {v : Value} {nd : Node} (k : h.StaysIn h') (x : PartOf w h v nd) : PartOf w h' v nd := let ⟨t, e, r⟩ := x; ⟨t, e, tkey_stay k r⟩
theorem dicth_stay {w : World} {h h' : Heap} {d : Addr} {kn : List (List Int × Addr × Value)} (k : h.StaysIn h') (x : h.DictOfH (tupleKind (iK w)) d kn) : h'.DictOfH (tupleKind (iK w)) d kn :=
  let ⟨o, es, ep, e, a, b, c, i, n⟩ := x; ⟨o, es, ep, k _ _ e, a, b, c, fun y hy => tkey_stay k (i y hy), n⟩
theorem IsCirc.stay {w : World} {h h' : Heap} {a : CA} {ns : List Node} {kn : List (List Int × Addr × Value)} (k : h.StaysIn h') (C : IsCirc w h a ns kn) : IsCirc w h' a ns kn :=
  ⟨let ⟨t1, t2, t3, n, I⟩ := C.inst; ⟨t1, t2, t3, n, inst_stay k I⟩, let ⟨kvs, n, e, r⟩ := C.kinds; ⟨kvs, n, k _ _ e, r⟩, let ⟨pvs, n, e, r⟩ := C.parts; ⟨pvs, n, k _ _ e, r.mono fun _ _ x => x.stay k⟩, dicth_stay k C.known, C.ne, C.ne2, C.lo⟩

theorem StrsAre.snoc {vs : List Value} {ss : List Str} (x : StrsAre vs ss) (s : Str) (t : Tok) : StrsAre (vs ++ [.str s t]) (ss ++ [s]) := by
  induction x with
  | nil => exact .cons s t .nil
  | cons y u _ ih => exact .cons y u ih
theorem StrsAre.len {vs : List Value} {ss : List Str} (x : StrsAre vs ss) : vs.length = ss.length := by
  induction x with
  | nil => rfl
  | cons y u _ ih => simp [ih]
theorem StrsAre.at_ {vs : List Value} {ss : List Str} (x : StrsAre vs ss) : ∀ {i : Nat} {v : Value}, vs[i]? = some v → ∃ s t, ss[i]? = some s ∧ v = .str s t := by
  induction x with
  | nil => intro i v h; cases h
  | cons y u _ ih =>
    intro i v h
    cases i with
    | zero => cases h; exact ⟨y, u, rfl, rfl⟩
    | succ i => exact ih h
theorem paired_at {α β : Type} {F : α → β → Prop} {as : List α} {bs : List β} (x : Paired F as bs) : ∀ {i : Nat} {v : α}, as[i]? = some v → ∃ b, bs[i]? = some b ∧ F v b := by
  induction x with
  | nil => intro i v h; cases h
  | cons f _ ih =>
    intro i v h
    cases i with
    | zero => cases h; exact ⟨_, rfl, f⟩
    | succ i => exact ih h
theorem tkey_obj {w : World} {h : Heap} {ks : List Int} {t : Addr} (x : IsTupleKey (iK w) h ks t) : ∃ o, h.get? t = some o ∧ o.cls = .type "tuple" := let ⟨o, _, _, e, c, _⟩ := x; ⟨o, e, c⟩
theorem PartOf.keep {w : World} {M : List Addr} {h h' : Heap} {v : Value} {nd : Node} (k : Keep M h h') (nt : ∀ t o, h.get? t = some o → o.cls = .type "tuple" → t ∉ M) (x : PartOf w h v nd) : PartOf w h' v nd :=
  let ⟨t, e, r⟩ := x; let ⟨o, eo, c⟩ := tkey_obj r; ⟨t, e, tkey_keep k (nt t o eo c) r⟩
theorem dicth_keep {w : World} {M : List Addr} {h h' : Heap} {d : Addr} {kn : List (List Int × Addr × Value)} (k : Keep M h h') (nt : ∀ t o, h.get? t = some o → o.cls = .type "tuple" → t ∉ M) (nd : d ∉ M) (x : h.DictOfH (tupleKind (iK w)) d kn) : h'.DictOfH (tupleKind (iK w)) d kn :=
  let ⟨o, es, ep, e, a, b, c, i, n⟩ := x; ⟨o, es, ep, k _ _ nd e, a, b, c, fun y hy => let ⟨o', eo, c'⟩ := tkey_obj (i y hy); tkey_keep k (nt _ o' eo c') (i y hy), n⟩
end Mine
end
local macro_rules | `(tactic| walk_at $s:str) => `(tactic| k_extra $s)
local macro_rules | `(tactic| k_inst) => `(tactic| exact Mine.inst_stay (Fr.keep (by k_asm)) (by assumption))
local macro_rules | `(tactic| k_inst) => `(tactic| assumption)
section
set_option linter.all false
open PySem PySem.W PyProof.Rows PySem.Calls PyProof.V PySem.Spec
set_option maxRecDepth 100000
namespace Mine
theorem wordsNuPick : True := by
  w_top off
  k_with_none
  k_with "call ref" => (k_here; (with_reducible show wpAny _ _ (call (Value.ref 164) [Value.ref _, Value.int _ _]) _ _ _); k_dflt (refine' next_K ?F ?N ?X ?T ?U ?dp ?un ?d ?k0 ?k1 ?w ?w2 ?c ?i ?ns ?ca ?_; (case F => k_asm); (case N => k_asm); (case X => k_asm); (case T => k_asm); (case U => k_updF); (case dp => omega); (case un => omega); (case d => k_asm); (case c => is_list); (case i => assumption); (case k0 => omega); (case k1 => omega); (case w => omega); (case w2 => omega); (case ns => assumption); (case ca => assumption)); intro h'ω o'ω r'ω tr'ω tk'ω tq'ω F'ω N'ω d'ω r0'ω r1'ω kp'ω; (try dsimp only at N'ω))
  k_with "call builtin:len" => (k_here; (with_reducible show wpAny _ _ (call (Value.builtin "len") [Value.ref _]) _ _ _); k_dflt (refine' len_G ?l ?z ?_; (case l => is_list); (case z => omega)))
  k_with "subscriptTail" => (k_here; (with_reducible show wpAny _ _ (subscriptTail _ _ (Value.ref _) (Value.int _ _)) _ _ _); k_dflt (refine' item_G ?l ?k0 ?k1 ?z ?_ ?hs; (case l => is_list); (case k0 => omega); (case k1 => omega); (case z => omega); (case hs => with_unfolding_all rfl)); intro v'ω hv'ω)
  k_with "eval ListComp" => (k_here; refine stop_intro ?_)
  k_with "eval Name" => (k_dflt (refine' name_loc ?n ?v ?k ?l ?d ?_; (case n => assumption); (case v => assumption); (case k => exact rfl); (case l => exact rfl); (case d => decide)))
  trivial
set_option maxHeartbeats 4000000 in
theorem pick_spec {w : World} {mean : ExcName → Option Value} {mg mb : Str → Option Value} {hs : Heap} {dp un : Nat} {fr : Option (List Env)} {gd : Option (List Code)} {s : Shared} {Q E : Value → Shared → Prop} (P : Int → List Bool → Prop) (hP : ∀ x r, P x r → P (-x) (r.map not)) (hPl : ∀ x r, P x r → r.length ≤ 8)
   (C : Ctx w mean mg mb hs) (S : hs.StaysIn s.heap) (a c gl : Addr) (o : Obj) (ha : s.heap.get? a = some o) (hn : hs.get? a = none) (t' : Tok) (k : Int) (hdp : dp ≤ 800) (hun : un ≤ 8900) (ns : List Int) (vs gvs : List Value)
   (hd : o.IsDictOf (PySem.strKind PySem.Challenge.rw_nu0266_01.row.prog w) [(Str.ofString "cells", .ref c), (Str.ofString "spot", .int k t')]) (hk0 : 0 ≤ k) (hk1 : k ≤ 900)
   (hc : s.heap.IsList c vs.toArray) (hi : IntsAre vs ns) (hns : ns.length ≤ 60)
   (hg : s.heap.IsList gl gvs.toArray) (hgv : ∀ v ∈ gvs, ∃ x row, IsPair s.heap v x row ∧ P x row) (hg1 : 1 ≤ gvs.length) (hg2 : gvs.length ≤ 100) 
   (hQ : ∀ h' o' v x row tk t'', Keep [a] s.heap h' → s.heap.objs.size ≤ h'.objs.size → h'.get? a = some o' → o'.IsDictOf (PySem.strKind PySem.Challenge.rw_nu0266_01.row.prog w) [(Str.ofString "cells", .ref c), (Str.ofString "spot", .int (k + 1 + 1) t'')] → IsPair h' v x row → P x row → Q v { s with heap := h', toks := tk }) :
   wpAny (model PySem.Challenge.rw_nu0266_01.row.prog w) (At dp un fr gd) (call (.ref 169) [.ref a, .ref gl]) Q E s := by
  have X0 := C.X
  revert X0
  k_fill
  intro X0
  refine' enter (binds := [(Str.ofString "feed", .ref a), (Str.ofString "gates", .ref gl)]) [(a, o)] C S ?ho ?hcd ?hr ?hm ?hn ?hbind ?hcell ?hloc ?_ ?hco ?hg ?hk
  case ho => k_is
  case hcd => k_is
  case hr => exact Nat.lt_of_le_of_lt hdp (by decide)
  case hm => intro p hp; rw [List.mem_singleton.mp hp]; exact hn
  case hn => intro p hp; rw [List.mem_singleton.mp hp]; exact ha
  case hbind => exact BindsTo.of_eq rfl
  case hcell => decide
  case hloc => exact locs rfl
  case hco => exact rfl
  case hg => exact rfl
  case hk => exact rfl
  intro g L' h₁ fr' tk0 K0 F N X T St Of Sz
  have K0 : Keep [a] s.heap g := K0
  have oc := dict_cls hd
  have hca := ne_dict_list ha oc hc
  have hlc : g.IsList c vs.toArray := keep_list K0 (by simpa using hca) hc
  have hga := ne_dict_list ha oc hg
  have hlg : g.IsList gl gvs.toArray := keep_list K0 (by simpa using hga) hg
  have hgz : g.get? a = none := (N _ (.head _)).2.2
  have hlen := hi.length
  k_steps
  revert hv'ω; revert v'ω; intro v hv
  obtain ⟨x, row, hpr, hpx⟩ := hgv v (List.mem_of_getElem? hv)
  obtain ⟨p, t, ra, rfl, htu, hra⟩ := IsPair.keep1 K0 ha oc hpr
  k_steps
  · try dsimp only
    rename Fr _ _ _ _ => F9
    rename News _ _ _ _ => N9
    rename Obj.IsDictOf _ _ _ => D9
    refine hQ _ _ _ x row _ _ (Keep.of_fr K0 F9) (size_of_fr Sz F9) (N9 _ (.tail _ (.head _))).1 D9 ⟨_, t, ra, rfl, ⟨_, (N9 _ (.head _)).1, rfl, _, rfl⟩, stay_list F9.keep hra⟩ hpx
  · unfold Stop
    rename Fr _ _ _ _ => F9
    rename News _ _ _ _ => N9
    rename Obj.IsDictOf _ _ _ => D9
    refine' comp_K F9 N9 (fun _ => true) (fun v y => ∃ b, v = .bool b ∧ y = .bool (!b)) ?c1 ?c2 ?c3 ?c4 ?c5 ?_ ?c6
    case c1 => with_unfolding_all rfl
    case c2 => decide
    case c3 => exact rfl
    case c4 => decide
    case c5 => exact rfl
    case c6 => intro _; with_unfolding_all rfl
    k_steps
    refine' ⟨_, _, _, by assumption, by assumption, iter_list rfl (by exact stay_list F9.keep hra), ?_, tests_none, ?_, ?_⟩
    · have := hPl x row hpx
      rw [List.size_toArray, List.length_map, sizeLine_eq]; omega
    · intro C i v s₃ m₃ E' hC hP hp hn hm st
      have hv2 : v ∈ row.map Value.bool := List.mem_of_getElem? (by simpa using hP)
      obtain ⟨b, _, rfl⟩ := List.mem_map.mp hv2
      k_steps
      exact ⟨⟨b, rfl, rfl⟩, _, _, rfl, fun _ _ e => e⟩
    · intro D h' tk ys kk vs' F' N' hD hlen' hv' hF hst
      have e1 := list_of_places hlen' hv'
      rw [filter_true, e1] at hF
      have e2 := paired_not hF
      subst e2
      k_steps
      rename Fr _ _ _ _ => F9
      rename News _ _ _ _ => N9
      refine hQ _ _ _ (-x) (row.map not) _ _ (Keep.of_fr K0 F9) (size_of_fr Sz F9) (N9 _ (.tail _ (.tail _ (.head _)))).1 D9 ⟨_, _, D, rfl, ⟨_, (N9 _ (.head _)).1, rfl, _, rfl⟩, ⟨_, (N9 _ (.tail _ (.head _))).1, rfl, _, rfl⟩⟩ (hP _ _ hpx)
end Mine
end
section
set_option linter.all false
open PySem PySem.W PyProof.Rows PySem.Calls PyProof.V PySem.Spec
set_option maxRecDepth 100000
namespace Mine
theorem wordsNuDeed : True := by
  w_top off
  k_with_none
  k_with "call ref" => (k_here; (with_reducible show wpAny _ _ (call (Value.ref 164) [Value.ref _, Value.int _ _]) _ _ _); k_dflt (refine' next_K ?F ?N ?X ?T ?U ?dp ?un ?d ?k0 ?k1 ?w ?w2 ?c ?i ?ns ?ca ?_; (case F => k_asm); (case N => k_asm); (case X => k_asm); (case T => k_asm); (case U => k_updF); (case dp => omega); (case un => omega); (case d => k_asm); (case c => is_list); (case i => assumption); (case k0 => omega); (case k1 => omega); (case w => omega); (case w2 => omega); (case ns => assumption); (case ca => assumption)); intro h'ω o'ω r'ω tr'ω tk'ω tq'ω F'ω N'ω d'ω r0'ω r1'ω kp'ω; (try dsimp only at N'ω))
  k_with "call builtin:len" => (k_here; (with_reducible show wpAny _ _ (call (Value.builtin "len") [Value.ref _]) _ _ _); k_dflt (refine' len_G ?l ?z ?_; (case l => is_list); (case z => omega)))
  k_with "subscriptTail" => (k_here; (with_reducible show wpAny _ _ (subscriptTail _ _ (Value.ref _) (Value.int _ _)) _ _ _); k_dflt (refine' item_G ?l ?k0 ?k1 ?z ?_ ?hs; (case l => is_list); (case k0 => first | assumption | omega); (case k1 => first | assumption | omega); (case z => first | assumption | omega); (case hs => with_unfolding_all rfl)); intro v'ω hv'ω)
  k_with "eval ListComp" => (k_here; refine stop_intro ?_)
  k_with "eval Name" => (k_dflt (refine' name_loc ?n ?v ?k ?l ?d ?_; (case n => assumption); (case v => assumption); (case k => exact rfl); (case l => exact rfl); (case d => decide)))
  k_with "subscriptTail" => (k_here; (with_reducible show wpAny _ _ (subscriptTail _ _ (Value.ref _) (Value.int _ _)) _ _ _); k_dflt (refine' item_bools ?l ?k0 ?k1 ?z ?_ ?hs; (case l => is_list); (case k0 => first | assumption | omega); (case k1 => first | assumption | omega); (case z => first | assumption | omega); (case hs => with_unfolding_all rfl)))
  k_with "compareOp In" => (k_here; (with_reducible show wpAny _ _ (compareOp CmpOp.In (Value.bool _) (Value.ref _)) _ _ _); k_dflt (refine' in_bools ?l ?_; (case l => is_list)))
  k_with "compareOp NotIn" => (k_here; (with_reducible show wpAny _ _ (compareOp CmpOp.NotIn (Value.bool _) (Value.ref _)) _ _ _); k_dflt (refine' notin_bools ?l ?_; (case l => is_list)))
  k_with "exec For" => (k_here; refine stop_intro ?_)
  k_with "exec For Name Call cons nil" => (k_here; refine stop_intro ?_)
  k_with "exec For Name Name cons nil" => (k_here; refine stop_intro ?_)
  k_with "exec For Tuple Name cons nil" => (k_here; refine stop_intro ?_)
  k_with "exec For Name Attribute cons nil" => (k_here; refine stop_intro ?_)
  k_with "setItem ref int" => (k_here; k_dflt (refine' kda_set (knd := PySem.intKind _ _) ?F ?N ?U ?d (intKind_is _ _ _ _) ?z ?_; (case F => k_asm); (case N => k_asm); (case U => k_updF); (case d => k_asm); (case z => (rw [sizeLine_eq]; omega))); intro h'ω o'ω F'ω N'ω hd'ω; (try dsimp only at N'ω))
  k_with "call builtin:len" => (k_here; (with_reducible show wpAny _ _ (call (Value.builtin "len") [Value.ref _]) _ _ _); k_dflt (refine' len_A ?l ?z ?_; (case l => is_list); (case z => (simp only [Array.size_push, List.size_toArray]; omega))))
  k_with "compareOp In" => (k_here; (with_reducible show wpAny _ _ (compareOp CmpOp.In (Value.int _ _) (Value.ref _)) _ _ _); k_dflt (refine' kda_in (knd := PySem.intKind _ _) ?N ?mem ?hd ?lo (intKind_is _ _ _ _) _ rfl ?_; (case N => k_asm); (case mem => k_mem); (case hd => k_asm); (case lo => assumption)))
  k_with "newTuple" => (k_here; k_dflt (refine' newTuple_S ?F ?N ?_ ?z; (case F => k_asm); (case N => k_asm); (case z => kmk_size)); intro D'ω h'ω St'ω F'ω N'ω l1ω; (try k_lt l1ω))
  trivial
noncomputable def deed (kind : Int) (cols : List Bool) : Bool :=
  if kind = 0 ∨ kind = 2 then !(cols.contains false)
  else if kind = 1 ∨ kind = 3 then cols.contains true
  else if kind = 4 then cols.getD 1 false || !(cols.getD 0 false)
  else if kind = 5 then cols.getD 0 false == cols.getD 1 false
  else if kind = 6 then cols.getD 0 false != cols.getD 1 false
  else if cols.getD 0 false then cols.getD 1 false else cols.getD 2 false
set_option maxHeartbeats 4000000 in
theorem deed_spec {w : World} {mean : ExcName → Option Value} {mg mb : Str → Option Value} {hs : Heap} {dp un : Nat} {fr : Option (List Env)} {gd : Option (List Code)} {s : Shared} {Q E : Value → Shared → Prop}
   (C : Ctx w mean mg mb hs) (S : hs.StaysIn s.heap) (kind : Int) (t : Tok) (l : Addr) (cols : List Bool) (hdp : dp ≤ 800) (hun : un ≤ 8900)
   (hl : s.heap.IsList l (cols.map Value.bool).toArray) (hlen : cols.length ≤ 8) (hk0 : 0 ≤ kind) (hk7 : kind ≤ 7) (h2 : 2 ≤ kind → 2 ≤ cols.length) (h3 : kind = 7 → 3 ≤ cols.length)
   (hQ : ∀ h' tk, s.heap.StaysIn h' → s.heap.objs.size ≤ h'.objs.size → Q (.bool (deed kind cols)) { s with heap := h', toks := tk }) :
   wpAny (model PySem.Challenge.rw_nu0266_01.row.prog w) (At dp un fr gd) (call (.ref 176) [.int kind t, .ref l]) Q E s := by
  have X0 := C.X
  revert X0
  k_fill
  intro X0
  refine' enter (binds := [(Str.ofString "kind", .int kind t), (Str.ofString "columns", .ref l)]) [] C S ?ho ?hcd ?hr ?hm ?hn ?hbind ?hcell ?hloc ?_ ?hco ?hg ?hk
  case ho => k_is
  case hcd => k_is
  case hr => exact Nat.lt_of_le_of_lt hdp (by decide)
  case hm => intro p hp; cases hp
  case hn => intro p hp; cases hp
  case hbind => exact BindsTo.of_eq rfl
  case hcell => decide
  case hloc => exact locs rfl
  case hco => exact rfl
  case hg => exact rfl
  case hk => exact rfl
  intro g L' h₁ fr' tk0 K0 F N X T St Of Sz
  have K0 : Keep [] s.heap g := K0
  have hlg : g.IsList l (cols.map Value.bool).toArray := keep_list K0 (by simp) hl
  have hk : kind = 0 ∨ kind = 1 ∨ kind = 2 ∨ kind = 3 ∨ kind = 4 ∨ kind = 5 ∨ kind = 6 ∨ kind = 7 := by omega
  have fin : ∀ (h' : Heap) (m' : Str → Option Value) (tk : Nat) (b : Bool), Fr g L' h' m' → b = deed kind cols → Q (.bool b) { s with heap := h', toks := tk } := fun h' m' tk b F' e => by
    rw [e]
    exact hQ h' tk (fun a o ea => F'.keep a o (K0 a o (by simp) ea)) (size_of_fr Sz F')
  clear hQ
  rcases hk with rfl | rfl | rfl | rfl | rfl | rfl | rfl | rfl
  all_goals
    k_steps
    all_goals (try dsimp only)
    all_goals (rename Fr _ _ _ _ => F9)
    all_goals refine fin _ _ _ _ F9 ?_
    all_goals
      try simp only [show Int.toNat 0 = 0 from rfl, show Int.toNat 1 = 1 from rfl, show Int.toNat 2 = 2 from rfl] at *
      simp only [deed]
      simp_all
end Mine
end
section
set_option linter.all false
open PySem PySem.W PyProof.Rows PySem.Calls PyProof.V PySem.Spec
set_option maxRecDepth 100000
namespace Mine
theorem wordsNuTold : True := by
  w_top off
  k_with_none
  k_with "call ref" => (k_here; (with_reducible show wpAny _ _ (call (Value.ref 164) [Value.ref _, Value.int _ _]) _ _ _); k_dflt (refine' next_K ?F ?N ?X ?T ?U ?dp ?un ?d ?k0 ?k1 ?w ?w2 ?c ?i ?ns ?ca ?_; (case F => k_asm); (case N => k_asm); (case X => k_asm); (case T => k_asm); (case U => k_updF); (case dp => omega); (case un => omega); (case d => k_asm); (case c => is_list); (case i => assumption); (case k0 => omega); (case k1 => omega); (case w => omega); (case w2 => omega); (case ns => assumption); (case ca => assumption)); intro h'ω o'ω r'ω tr'ω tk'ω tq'ω F'ω N'ω d'ω r0'ω r1'ω kp'ω; (try dsimp only at N'ω))
  k_with "call builtin:len" => (k_here; (with_reducible show wpAny _ _ (call (Value.builtin "len") [Value.ref _]) _ _ _); k_dflt (refine' len_G ?l ?z ?_; (case l => is_list); (case z => omega)))
  k_with "subscriptTail" => (k_here; (with_reducible show wpAny _ _ (subscriptTail _ _ (Value.ref _) (Value.int _ _)) _ _ _); k_dflt (refine' item_G ?l ?k0 ?k1 ?z ?_ ?hs; (case l => is_list); (case k0 => first | assumption | omega); (case k1 => first | assumption | omega); (case z => first | assumption | omega); (case hs => with_unfolding_all rfl)); intro v'ω hv'ω)
  k_with "eval ListComp" => (k_here; refine stop_intro ?_)
  k_with "eval Name" => (k_dflt (refine' name_loc ?n ?v ?k ?l ?d ?_; (case n => assumption); (case v => assumption); (case k => exact rfl); (case l => exact rfl); (case d => decide)))
  k_with "subscriptTail" => (k_here; (with_reducible show wpAny _ _ (subscriptTail _ _ (Value.ref _) (Value.int _ _)) _ _ _); k_dflt (refine' item_bools ?l ?k0 ?k1 ?z ?_ ?hs; (case l => is_list); (case k0 => first | assumption | omega); (case k1 => first | assumption | omega); (case z => first | assumption | omega); (case hs => with_unfolding_all rfl)))
  k_with "compareOp In" => (k_here; (with_reducible show wpAny _ _ (compareOp CmpOp.In (Value.bool _) (Value.ref _)) _ _ _); k_dflt (refine' in_bools ?l ?_; (case l => is_list)))
  k_with "compareOp NotIn" => (k_here; (with_reducible show wpAny _ _ (compareOp CmpOp.NotIn (Value.bool _) (Value.ref _)) _ _ _); k_dflt (refine' notin_bools ?l ?_; (case l => is_list)))
  k_with "exec For" => (k_here; refine stop_intro ?_)
  k_with "exec For Name Call cons nil" => (k_here; refine stop_intro ?_)
  k_with "exec For Name Name cons nil" => (k_here; refine stop_intro ?_)
  k_with "exec For Tuple Name cons nil" => (k_here; refine stop_intro ?_)
  k_with "exec For Name Attribute cons nil" => (k_here; refine stop_intro ?_)
  k_with "setItem ref int" => (k_here; k_dflt (refine' kda_set (knd := PySem.intKind _ _) ?F ?N ?U ?d (intKind_is _ _ _ _) ?z ?_; (case F => k_asm); (case N => k_asm); (case U => k_updF); (case d => k_asm); (case z => (rw [sizeLine_eq]; omega))); intro h'ω o'ω F'ω N'ω hd'ω; (try dsimp only at N'ω))
  k_with "call builtin:len" => (k_here; (with_reducible show wpAny _ _ (call (Value.builtin "len") [Value.ref _]) _ _ _); k_dflt (refine' len_A ?l ?z ?_; (case l => is_list); (case z => (simp only [Array.size_push, List.size_toArray]; omega))))
  k_with "compareOp In" => (k_here; (with_reducible show wpAny _ _ (compareOp CmpOp.In (Value.int _ _) (Value.ref _)) _ _ _); k_dflt (refine' kda_in (knd := PySem.intKind _ _) ?N ?mem ?hd ?lo (intKind_is _ _ _ _) _ rfl ?_; (case N => k_asm); (case mem => k_mem); (case hd => k_asm); (case lo => assumption)))
  k_with "newTuple" => (k_here; k_dflt (refine' newTuple_S ?F ?N ?_ ?z; (case F => k_asm); (case N => k_asm); (case z => kmk_size)); intro D'ω h'ω St'ω F'ω N'ω l1ω; (try k_lt l1ω))
  trivial
noncomputable def bitZ (number : Int) (k : Int) : Bool := (number.fdiv (2 ^ k.toNat)).fmod 2 == 1
/-- what the inputs xs are told by the number: the bit at each one's place -/
noncomputable def toldVal (xs : List Int) (number : Int) (x : Int) : Bool := xs.zipIdx.any fun p => p.1 == x && bitZ number (p.2 : Int)
theorem toldVal_snoc (xs : List Int) (number a x : Int) : toldVal (xs ++ [a]) number x = (toldVal xs number x || (a == x && bitZ number (xs.length : Int))) := by
  unfold toldVal
  rw [List.zipIdx_append, List.any_append]
  simp
theorem toldVal_off {xs : List Int} {number x : Int} (h : x ∉ xs) : toldVal xs number x = false := by
  unfold toldVal
  rw [List.any_eq_false]
  rintro ⟨a, i⟩ hp
  have : a ∈ xs := (List.mem_zipIdx' hp).2 ▸ List.getElem_mem _
  have hne : (a == x) = false := by
    rw [beq_eq_false_iff_ne]; rintro rfl; exact h this
  simp [hne]
section
variable {prog : Program} {w : World}
noncomputable def ToldBy (xs : List Int) (number : Int) (kvs : List (Int × Value)) : Prop := ∀ x, (valueAt kvs x).getD (.bool false) = .bool (toldVal xs number x)
theorem ToldBy.skip {xs : List Int} {number a : Int} {kvs : List (Int × Value)} (h : ToldBy xs number kvs) (hb : bitZ number (xs.length : Int) = false) : ToldBy (xs ++ [a]) number kvs := fun x => by
  rw [h x, toldVal_snoc, hb]; simp
theorem valueAt_cons {K : Type} [DecidableEq K] (p : K × Value) (r : List (K × Value)) (x : K) : valueAt (p :: r) x = if p.1 = x then some p.2 else valueAt r x := by
  unfold valueAt
  by_cases h : p.1 = x <;> simp [h]
theorem valueAt_mapstore {K : Type} [DecidableEq K] (k : K) (v : Value) (x : K) : ∀ kvs : List (K × Value), valueAt (kvs.map fun kv => if kv.1 = k then (kv.1, v) else kv) x = if x = k then (if kvs.any (fun kv => kv.1 = k) then some v else none) else valueAt kvs x
  | [] => by by_cases h : x = k <;> simp [valueAt, h]
  | p :: r => by
    rw [List.map_cons, valueAt_cons, valueAt_cons, valueAt_mapstore k v x r]
    by_cases hx : x = k
    · subst hx
      by_cases hp : p.1 = x
      · simp [hp]
      · simp only [hp, if_false, List.any_cons, decide_false, Bool.false_or, if_true]
    · by_cases hp : p.1 = k
      · have hpx : ¬ k = x := fun e => hx e.symm
        have hpx' : ¬ p.1 = x := fun e => hx (e.symm.trans hp)
        simp [hp, hx, hpx]
      · simp [hp, hx]
theorem valueAt_stored' {K : Type} [DecidableEq K] (kvs : List (K × Value)) (k : K) (v : Value) (x : K) : valueAt (stored kvs k v) x = if x = k then some v else valueAt kvs x := by
  unfold stored
  split
  · rename_i h
    rw [valueAt_mapstore, h]; simp
  · rename_i h
    have ap : ∀ l : List (K × Value), l.any (fun kv => kv.1 = k) = false → valueAt (l ++ [(k, v)]) x = if x = k then some v else valueAt l x := by
      intro l
      induction l with
      | nil => intro _; by_cases hx : x = k <;> simp [valueAt, hx, eq_comm]
      | cons p r ih =>
        intro h
        rw [List.any_cons, Bool.or_eq_false_iff] at h
        rw [List.cons_append, valueAt_cons, valueAt_cons, ih h.2]
        have hp : ¬ p.1 = k := of_decide_eq_false h.1
        by_cases hx : x = k
        · subst hx; simp [hp]
        · simp [hx]
    exact ap kvs (Bool.eq_false_iff.mpr h)
theorem ToldBy.put {xs : List Int} {number a : Int} {kvs : List (Int × Value)} {b : Bool} (h : ToldBy xs number kvs) (ha : a ∉ xs) (hb : bitZ number (xs.length : Int) = b) : ToldBy (xs ++ [a]) number (stored kvs a (.bool b)) := fun x => by
  rw [valueAt_stored', toldVal_snoc, hb]
  by_cases hx : x = a
  · subst hx
    rw [if_pos rfl, toldVal_off ha]
    simp
  · rw [if_neg hx, h x]
    have : (a == x) = false := beq_eq_false_iff_ne.mpr fun e => hx e.symm
    rw [this]; simp
end
inductive ToldInv (w : World) (d l : Addr) (xs : List Int) (number : Int) (t : Tok) (i : Nat) (m' : Str → Option Value) (nx : List (Addr × Obj)) : Prop
  | mk : ∀ o' kvs a b, (nx = [(d, o')]) → (o'.IsDictOf (PySem.intKind PySem.Challenge.rw_nu0266_01.row.prog w) kvs) → (ToldBy (xs.take i) number kvs) → (kvs.length ≤ i) → (m' = (fun y => if y = Str.ofString "is_true" then b else if y = Str.ofString "k" then a else if y = Str.ofString "found" then some (Value.ref d) else List.lookup y [(Str.ofString "inputs", Value.ref l), (Str.ofString "number", Value.int number t)].reverse)) → ToldInv w d l xs number t i m' nx
set_option maxHeartbeats 4000000 in
theorem told_spec {w : World} {mean : ExcName → Option Value} {mg mb : Str → Option Value} {hs : Heap} {dp un : Nat} {fr : Option (List Env)} {gd : Option (List Code)} {s : Shared} {Q E : Value → Shared → Prop}
   (C : Ctx w mean mg mb hs) (S : hs.StaysIn s.heap) (number : Int) (t : Tok) (l : Addr) (xs : List Int) (vs : List Value) (hdp : dp ≤ 800) (hun : un ≤ 8900)
   (hl : s.heap.IsList l vs.toArray) (hi : IntsAre vs xs) (hlen : xs.length ≤ 3) (hnd : xs.Nodup) (hk0 : 0 ≤ number) (hk7 : number ≤ 7)
   (hQ : ∀ h' d kvs tk, s.heap.StaysIn h' → s.heap.objs.size ≤ h'.objs.size → s.heap.get? d = none → h'.DictOf (PySem.intKind PySem.Challenge.rw_nu0266_01.row.prog w) d kvs → ToldBy xs number kvs → kvs.length ≤ 3 → (d == sysModules) = false → Q (.ref d) { s with heap := h', toks := tk }) :
   wpAny (model PySem.Challenge.rw_nu0266_01.row.prog w) (At dp un fr gd) (call (.ref 190) [.ref l, .int number t]) Q E s := by
  have X0 := C.X
  revert X0
  k_fill
  intro X0
  refine' enter (binds := [(Str.ofString "inputs", .ref l), (Str.ofString "number", .int number t)]) [] C S ?ho ?hcd ?hr ?hm ?hn ?hbind ?hcell ?hloc ?_ ?hco ?hg ?hk
  case ho => k_is
  case hcd => k_is
  case hr => exact Nat.lt_of_le_of_lt hdp (by decide)
  case hm => intro p hp; cases hp
  case hn => intro p hp; cases hp
  case hbind => exact BindsTo.of_eq rfl
  case hcell => decide
  case hloc => exact locs rfl
  case hco => exact rfl
  case hg => exact rfl
  case hk => exact rfl
  intro g L' h₁ fr' tk0 K0' F N X T St Of Sz
  have K0 : Keep [] s.heap g := K0'
  clear K0'
  have hlg : g.IsList l vs.toArray := keep_list K0 (by simp) hl
  have hlen' := hi.length
  k_steps
  unfold Stop
  rename Fr _ _ _ _ => F9
  rename News _ _ _ _ => N9
  rename Obj.IsDictOf (PySem.intKind _ _) _ _ => hi₀
  rename (_ == sysModules) = false => lo₀
  rename_i d _ o₀ _ _ _ _ _
  refine' for_K F9 (ToldInv w d l xs number t) ?_ ?hs
  case hs => intro _; with_unfolding_all rfl
  k_steps
  rename Fr _ _ _ _ => F8
  rename News _ _ _ _ => N8
  rename IsRange _ _ _ _ _ _ _ _ => R8
  refine' ⟨xs.length, _, _, _, [(d, o₀)], iter_range rfl R8 ?small ?size, F8, ?N, ?J0, ?src, ?step, ?done⟩
  case small => exact small_one (by omega) (by omega) (by omega) (by omega)
  case size => rw [rangeSize_nat]; simp
  case N => exact fun p hp => N8 p (by first | exact hp | exact List.mem_cons_of_mem _ hp)
  case J0 =>
    refine ⟨o₀, [], _, _, rfl, hi₀, fun x => rfl, Nat.le_refl _, upd2_eq _ _ _⟩
  case src => intro b hb; cases hb
  case done =>
    rintro h tk m' news' F' N' ⟨o', kvs, a, b, rfl, hd', ht', hl', rfl⟩
    k_steps
    try dsimp only
    rename Fr _ _ _ _ => F7
    rename News _ _ _ _ => N7
    rw [List.take_length] at ht'
    refine hQ _ d kvs _ (fun a o ea => F7.keep a o (K0 a o (by simp) ea)) (size_of_fr Sz F7) ?_ (Heap.dictOf_iff.mpr ⟨o', (N7 _ (.head _)).1, hd'⟩) ht' (by omega) lo₀
    cases q : s.heap.get? d with
    | none => rfl
    | some ob => have := (N7 _ (.head _)).2.2; rw [K0 d ob (by simp) q] at this; cases this
  case step =>
    rintro i v m₁ news₁ h tk I oI hi' ⟨t', rfl⟩ ⟨o', kvs, a, b, rfl, hd', ht', hl', rfl⟩ hI F' N' dI
    have hI' : @Ne Nat d I := hI _ (.head _)
    have hdz : d ≠ sysModules := by rintro rfl; exact absurd lo₀ (by decide)
    k_steps
    all_goals
      rename Fr _ _ _ _ => F7
      rename News _ _ _ _ => N7
      have e1 := getD_take_succ hi'
      have e2 := getD_not_take hi' hnd
      have e3 : (xs.take i).length = i := by rw [List.length_take]; omega
      have e4 : ((i : Nat) : Int).toNat = i := Int.toNat_natCast i
    all_goals first
      | (rename Obj.IsDictOf (PySem.intKind _ _) _ (stored _ _ _) => D7
         refine TurnPost.next F7 N7 (.head _) (fun p hp => List.mem_cons_of_mem _ hp) (fun p hp => by rw [List.mem_singleton.mp hp]; exact hI') ⟨_, _, _, _, rfl, D7, ?_, ?_, upd2_shadow _ _ _ _ _ _ _⟩
         · rw [e1, e4]
           refine ToldBy.put ht' e2 ?_
           rw [e3]; rfl
         · have := stored_length_le kvs (xs.getD ((i : Nat) : Int).toNat 0) (Value.bool ((number.fdiv (2 ^ ((i : Nat) : Int).toNat)).fmod 2 == 1))
           omega)
      | (refine TurnPost.next F7 N7 (.head _) (fun p hp => List.mem_cons_of_mem _ hp) (fun p hp => by rw [List.mem_singleton.mp hp]; exact hI') ⟨_, _, _, _, rfl, hd', ?_, ?_, upd2_shadow _ _ _ _ _ _ _⟩
         · rw [e1]
           refine ToldBy.skip ht' ?_
           rw [e3]
           unfold bitZ
           rw [beq_eq_false_iff_ne]
           assumption
         · omega)
      | trace_state
end Mine
end
section
set_option linter.all false
open PySem PySem.W PyProof.Rows PySem.Calls PyProof.V PySem.Spec
set_option maxRecDepth 100000
namespace Mine
theorem wordsNuGate : True := by
  w_top off
  k_with_none
  k_with "call ref" => (k_here; (with_reducible show wpAny _ _ (call (Value.ref 164) [Value.ref _, Value.int _ _]) _ _ _); k_dflt (refine' next_K ?F ?N ?X ?T ?U ?dp ?un ?d ?k0 ?k1 ?w ?w2 ?c ?i ?ns ?ca ?_; (case F => k_asm); (case N => k_asm); (case X => k_asm); (case T => k_asm); (case U => k_updF); (case dp => omega); (case un => omega); (case d => k_asm); (case c => is_list); (case i => assumption); (case k0 => omega); (case k1 => omega); (case w => omega); (case w2 => omega); (case ns => assumption); (case ca => assumption)); intro h'ω o'ω r'ω tr'ω tk'ω tq'ω F'ω N'ω d'ω r0'ω r1'ω kp'ω; (try dsimp only at N'ω))
  k_with "call builtin:len" => (k_here; (with_reducible show wpAny _ _ (call (Value.builtin "len") [Value.ref _]) _ _ _); k_dflt (refine' len_G ?l ?z ?_; (case l => is_list); (case z => omega)))
  k_with "subscriptTail" => (k_here; (with_reducible show wpAny _ _ (subscriptTail _ _ (Value.ref _) (Value.int _ _)) _ _ _); k_dflt (refine' item_G ?l ?k0 ?k1 ?z ?_ ?hs; (case l => is_list); (case k0 => first | assumption | omega); (case k1 => first | assumption | omega); (case z => first | assumption | omega); (case hs => with_unfolding_all rfl)); intro v'ω hv'ω)
  k_with "eval ListComp" => (k_here; refine stop_intro ?_)
  k_with "eval Name" => (k_dflt (refine' name_loc ?n ?v ?k ?l ?d ?_; (case n => assumption); (case v => assumption); (case k => exact rfl); (case l => exact rfl); (case d => decide)))
  k_with "subscriptTail" => (k_here; (with_reducible show wpAny _ _ (subscriptTail _ _ (Value.ref _) (Value.int _ _)) _ _ _); k_dflt (refine' item_bools ?l ?k0 ?k1 ?z ?_ ?hs; (case l => is_list); (case k0 => first | assumption | omega); (case k1 => first | assumption | omega); (case z => first | assumption | omega); (case hs => with_unfolding_all rfl)))
  k_with "compareOp In" => (k_here; (with_reducible show wpAny _ _ (compareOp CmpOp.In (Value.bool _) (Value.ref _)) _ _ _); k_dflt (refine' in_bools ?l ?_; (case l => is_list)))
  k_with "compareOp NotIn" => (k_here; (with_reducible show wpAny _ _ (compareOp CmpOp.NotIn (Value.bool _) (Value.ref _)) _ _ _); k_dflt (refine' notin_bools ?l ?_; (case l => is_list)))
  k_with "exec For" => (k_here; refine stop_intro ?_)
  k_with "exec For Name Call cons nil" => (k_here; refine stop_intro ?_)
  k_with "exec For Name Name cons nil" => (k_here; refine stop_intro ?_)
  k_with "exec For Tuple Name cons nil" => (k_here; refine stop_intro ?_)
  k_with "exec For Name Attribute cons nil" => (k_here; refine stop_intro ?_)
  k_with "setItem ref int" => (k_here; k_dflt (refine' kda_set (knd := PySem.intKind _ _) ?F ?N ?U ?d (intKind_is _ _ _ _) ?z ?_; (case F => k_asm); (case N => k_asm); (case U => k_updF); (case d => k_asm); (case z => (rw [sizeLine_eq]; omega))); intro h'ω o'ω F'ω N'ω hd'ω; (try dsimp only at N'ω))
  k_with "call builtin:len" => (k_here; (with_reducible show wpAny _ _ (call (Value.builtin "len") [Value.ref _]) _ _ _); k_dflt (refine' len_A ?l ?z ?_; (case l => is_list); (case z => (simp only [Array.size_push, List.size_toArray]; omega))))
  k_with "compareOp In" => (k_here; (with_reducible show wpAny _ _ (compareOp CmpOp.In (Value.int _ _) (Value.ref _)) _ _ _); k_dflt (refine' kda_in (knd := PySem.intKind _ _) ?N ?mem ?hd ?lo (intKind_is _ _ _ _) _ rfl ?_; (case N => k_asm); (case mem => k_mem); (case hd => k_asm); (case lo => assumption)))
  k_with "newTuple" => (k_here; k_dflt (refine' newTuple_S ?F ?N ?_ ?z; (case F => k_asm); (case N => k_asm); (case z => kmk_size)); intro D'ω h'ω St'ω F'ω N'ω l1ω; (try k_lt l1ω))
  trivial
set_option maxHeartbeats 4000000 in
theorem kind_spec {w : World} {mean : ExcName → Option Value} {mg mb : Str → Option Value} {hs : Heap} {dp un : Nat} {fr : Option (List Env)} {gd : Option (List Code)} {s : Shared} {Q E : Value → Shared → Prop}
   (C : Ctx w mean mg mb hs) (S : hs.StaysIn s.heap) (a : CA) (ns : List Node) (kn : List (List Int × Addr × Value)) (CC : IsCirc w s.heap a ns kn) (x : Int) (t : Tok) (hdp : dp ≤ 800) (hun : un ≤ 8900) (hlen : ns.length ≤ 1000) (nd : Node) (hx : ns[x.natAbs]? = some nd)
   (hQ : ∀ h' t' tk, s.heap.StaysIn h' → s.heap.objs.size ≤ h'.objs.size → Q (.str nd.kind t') { s with heap := h', toks := tk }) :
   wpAny (model PySem.Challenge.rw_nu0266_01.row.prog w) (At dp un fr gd) (call (.ref 49) [.ref a.ci, .int x t]) Q E s := by
  have X0 := C.X
  revert X0
  k_fill
  intro X0
  refine' enter (binds := [(Str.ofString "self", .ref a.ci), (Str.ofString "g", .int x t)]) [] C S ?ho ?hcd ?hr ?hm ?hn ?hbind ?hcell ?hloc ?_ ?hco ?hg ?hk
  case ho => k_is
  case hcd => k_is
  case hr => exact Nat.lt_of_le_of_lt hdp (by decide)
  case hm => intro p hp; cases hp
  case hn => intro p hp; cases hp
  case hbind => exact BindsTo.of_eq rfl
  case hcell => decide
  case hloc => exact locs rfl
  case hco => exact rfl
  case hg => exact rfl
  case hk => exact rfl
  intro g L' h₁ fr' tk0 K0' F N X T St Of Sz
  have K0 : s.heap.StaysIn g := fun b o e => K0' b o (by simp) e
  clear K0'
  have CG := CC.stay K0
  obtain ⟨t1, t2, t3, n, I⟩ := CG.inst
  obtain ⟨kvs, nk, hk, hsa⟩ := CG.kinds
  have hlk : g.IsList a.ck kvs.toArray := ⟨_, hk, rfl, _, rfl⟩
  have e1 := StrsAre.len hsa
  rw [List.length_map] at e1
  have hlt : x.natAbs < ns.length := (List.getElem?_eq_some_iff.mp hx).1
  k_steps
  rename Fr _ _ _ _ => F9
  revert hv'ω; revert v'ω; intro v' hv'
  have e2 : (if x < 0 then -x else x).toNat = x.natAbs := by split <;> omega
  rw [e2] at hv'
  obtain ⟨s', t', es, rfl⟩ := StrsAre.at_ hsa hv'
  rw [List.getElem?_map, hx] at es
  cases es
  exact hQ _ _ _ (fun b o e => F9.keep b o (K0 b o e)) (size_of_fr Sz F9)
set_option maxHeartbeats 4000000 in
theorem parts_spec {w : World} {mean : ExcName → Option Value} {mg mb : Str → Option Value} {hs : Heap} {dp un : Nat} {fr : Option (List Env)} {gd : Option (List Code)} {s : Shared} {Q E : Value → Shared → Prop}
   (C : Ctx w mean mg mb hs) (S : hs.StaysIn s.heap) (a : CA) (ns : List Node) (kn : List (List Int × Addr × Value)) (CC : IsCirc w s.heap a ns kn) (x : Int) (t : Tok) (hdp : dp ≤ 800) (hun : un ≤ 8900) (hlen : ns.length ≤ 1000) (nd : Node) (hx : ns[x.natAbs]? = some nd)
   (hQ : ∀ h' tp tk, s.heap.StaysIn h' → s.heap.objs.size ≤ h'.objs.size → IsTupleKey (iK w) s.heap nd.parts tp → Q (.ref tp) { s with heap := h', toks := tk }) :
   wpAny (model PySem.Challenge.rw_nu0266_01.row.prog w) (At dp un fr gd) (call (.ref 56) [.ref a.ci, .int x t]) Q E s := by
  have X0 := C.X
  revert X0
  k_fill
  intro X0
  refine' enter (binds := [(Str.ofString "self", .ref a.ci), (Str.ofString "g", .int x t)]) [] C S ?ho ?hcd ?hr ?hm ?hn ?hbind ?hcell ?hloc ?_ ?hco ?hg ?hk
  case ho => k_is
  case hcd => k_is
  case hr => exact Nat.lt_of_le_of_lt hdp (by decide)
  case hm => intro p hp; cases hp
  case hn => intro p hp; cases hp
  case hbind => exact BindsTo.of_eq rfl
  case hcell => decide
  case hloc => exact locs rfl
  case hco => exact rfl
  case hg => exact rfl
  case hk => exact rfl
  intro g L' h₁ fr' tk0 K0' F N X T St Of Sz
  have K0 : s.heap.StaysIn g := fun b o e => K0' b o (by simp) e
  clear K0'
  have CG := CC.stay K0
  obtain ⟨t1, t2, t3, n, I⟩ := CG.inst
  obtain ⟨pvs, nk, hk, hpa⟩ := CG.parts
  have hlk : g.IsList a.cp pvs.toArray := ⟨_, hk, rfl, _, rfl⟩
  have e1 := hpa.length
  have hlt : x.natAbs < ns.length := (List.getElem?_eq_some_iff.mp hx).1
  k_steps
  rename Fr _ _ _ _ => F9
  revert hv'ω; revert v'ω; intro v' hv'
  have e2 : (if x < 0 then -x else x).toNat = x.natAbs := by split <;> omega
  rw [e2] at hv'
  obtain ⟨nd', en, tp, rfl, hk'⟩ := paired_at hpa hv'
  rw [hx] at en
  cases en
  obtain ⟨pvs0, n0, h0, hp0⟩ := CC.parts
  have e3 : pvs0 = pvs := by
    have := K0 _ _ h0
    rw [hk] at this
    simp only [Option.some.injEq, Obj.mk.injEq, Data.seq.injEq] at this
    simpa using this.2.2.1.1.symm
  subst e3
  obtain ⟨nd', en, tp', e4, hk''⟩ := paired_at hp0 hv'
  rw [hx] at en
  cases en
  cases e4
  exact hQ _ _ _ (fun b o e => F9.keep b o (K0 b o e)) (size_of_fr Sz F9) hk''
set_option maxHeartbeats 4000000 in
theorem gate_spec {w : World} {mean : ExcName → Option Value} {mg mb : Str → Option Value} {hs : Heap} {dp un : Nat} {fr : Option (List Env)} {gd : Option (List Code)} {s : Shared} {Q E : Value → Shared → Prop}
   (C : Ctx w mean mg mb hs) (S : hs.StaysIn s.heap) (a : CA) (ns : List Node) (kn : List (List Int × Addr × Value)) (CC : IsCirc w s.heap a ns kn) (hf1 : hs.get? a.ck = none) (hf2 : hs.get? a.cp = none) (kd : Str) (t : Tok) (tp : Addr) (nd : Node) (hnk : nd.kind = kd) (hnp : IsTupleKey (iK w) s.heap nd.parts tp)
   (hdp : dp ≤ 800) (hun : un ≤ 8900) (hlen : ns.length ≤ 1000)
   (hQ : ∀ h' t' tk, Keep [a.ck, a.cp] s.heap h' → s.heap.objs.size ≤ h'.objs.size → IsCirc w h' a (ns ++ [nd]) kn → Q (.int (ns.length : Int) t') { s with heap := h', toks := tk }) :
   wpAny (model PySem.Challenge.rw_nu0266_01.row.prog w) (At dp un fr gd) (call (.ref 63) [.ref a.ci, .str kd t, .ref tp]) Q E s := by
  have X0 := C.X
  revert X0
  k_fill
  intro X0
  obtain ⟨kvs, nk, hk, hsa⟩ := CC.kinds
  obtain ⟨pvs, np, hp, hpa⟩ := CC.parts
  refine' enter (binds := [(Str.ofString "self", .ref a.ci), (Str.ofString "kind", .str kd t), (Str.ofString "parts", .ref tp)]) [(a.ck, listOf kvs.toArray nk), (a.cp, listOf pvs.toArray np)] C S ?ho ?hcd ?hr ?hm ?hn ?hbind ?hcell ?hloc ?_ ?hco ?hg ?hk
  case ho => k_is
  case hcd => k_is
  case hr => exact Nat.lt_of_le_of_lt hdp (by decide)
  case hm => exact List.forall_mem_cons.mpr ⟨hf1, List.forall_mem_cons.mpr ⟨hf2, List.forall_mem_nil _⟩⟩
  case hn => exact List.forall_mem_cons.mpr ⟨hk, List.forall_mem_cons.mpr ⟨hp, List.forall_mem_nil _⟩⟩
  case hbind => exact BindsTo.of_eq rfl
  case hcell => decide
  case hloc => exact locs rfl
  case hco => exact rfl
  case hg => exact rfl
  case hk => exact rfl
  intro g L' h₁ fr' tk0 K0' F N X T St Of Sz
  have K0 : Keep [a.ck, a.cp] s.heap g := K0'
  clear K0'
  have hne : @Ne Nat a.ck a.cp := CC.ne
  have hne2 : @Ne Nat a.cp a.ck := Ne.symm CC.ne
  obtain ⟨t1, t2, t3, n, I₀⟩ := CC.inst
  have notl : ∀ {b : Addr} {o : Obj}, s.heap.get? b = some o → o.cls ≠ .type "list" → b ∉ [a.ck, a.cp] := by
    intro b o e hc hm
    rcases List.mem_cons.mp hm with rfl | hm
    · rw [hk] at e; cases e; exact hc rfl
    · rw [List.mem_singleton.mp hm, hp] at e; cases e; exact hc rfl
  have nci : a.ci ∉ [a.ck, a.cp] := notl I₀.at_ (by intro h; cases h)
  have ncd : a.cd ∉ [a.ck, a.cp] := notl I₀.dict (show Value.type "dict" ≠ Value.type "list" from by decide)
  have I := inst_keep K0 nci ncd rfl I₀
  have e1 := StrsAre.len hsa
  have e2 := hpa.length
  rw [List.length_map] at e1
  k_steps
  rename Fr _ _ _ _ => F9
  rename News _ _ _ _ => N9
  have ev : ((kvs.toArray.push (Value.str kd t)).size : Int) - 1 = (ns.length : Int) := by
    rw [Array.size_push, List.size_toArray, e1]; omega
  have K9 := Keep.of_fr K0 F9
  have nt : ∀ t o, s.heap.get? t = some o → o.cls = .type "tuple" → t ∉ [a.ck, a.cp] := fun t o e c => notl e (by rw [c]; decide)
  have fin := fun tk t' => hQ _ t' tk K9 (size_of_fr Sz F9) ⟨⟨t1, t2, t3, n, inst_stay F9.keep I⟩, ⟨kvs ++ [.str kd t], nk + 1, by rw [← List.push_toArray]; exact (N9 _ (.head _)).1, by
      rw [List.map_append]; exact hnk ▸ StrsAre.snoc hsa nd.kind t⟩, ⟨pvs ++ [.ref tp], np + 1, by rw [← List.push_toArray]; exact (N9 _ (.tail _ (.head _))).1, (hpa.mono fun _ _ x => x.keep K9 nt).snoc ⟨tp, rfl, by
        obtain ⟨o, eo, c⟩ := tkey_obj hnp; exact tkey_keep K9 (nt _ o eo c) hnp⟩⟩, dicth_keep K9 nt (by obtain ⟨o, _, _, e, hx, _⟩ := CC.known; exact notl e (by rw [hx.1]; decide)) CC.known, CC.ne, CC.ne2, CC.lo⟩
  rw [← ev] at fin
  exact fin _ _
end Mine
end
section
theorem Mine.topOffNuSort : True := by
  w_top off
  k_with_none
  trivial
set_option linter.all false
open PySem PySem.W PyProof.Rows PySem.Calls PyProof.V PySem.Spec
set_option maxRecDepth 100000
namespace Mine
section
variable {prog : Program} {w : World} {A : Around} {E : Value → Shared → Prop} {s : Shared} {h₀ : Heap} {L d : Addr} {o : Obj} {m : Str → Option Value} {news : List (Addr × Obj)} {Q : Value → Shared → Prop} {kvs : List (Int × Value)}
theorem ints_of : ∀ {kvs : List (Int × Value)} {vs : List Value}, vs.length = kvs.length → (∀ (j : Nat) (v : Value), vs[j]? = some v → ∃ k x, kvs[j]? = some (k, x) ∧ (intKind prog w).is k v = true) → IntsAre vs (kvs.map (·.1))
  | [], [], _, _ => .nil
  | [], _ :: _, h, _ => nomatch h
  | _ :: _, [], h, _ => nomatch h
  | (k, x) :: kvs, v :: vs, h, hv => by
    obtain ⟨k', x', e, hk⟩ := hv 0 v rfl
    cases e
    obtain ⟨t, rfl⟩ := Flat.int_inv (kdl_flat_int hk)
    exact .cons _ _ (ints_of (Nat.succ.inj h) fun j v e => hv (j + 1) v e)

theorem sorted_D (hh : A.handled = none) (F : Fr h₀ L s.heap m) (N : News h₀ L s.heap news) (hp : (d, o) ∈ news) (hd : o.IsDictOf (intKind prog w) kvs) (lo : (d == sysModules) = false) (hn : kvs.length < 64)
    (h : ∀ D h' tk vs' ns' e, Fr h₀ L h' m → News h₀ L h' ((D, listOf vs'.toArray e) :: news) → (∀ q ∈ news, q.1 < D) → IntsAre vs' ns' → ns'.Perm (kvs.map (·.1)) → ns'.Pairwise (· ≤ ·) → Q (.ref D) { s with heap := h', toks := tk }) :
    wpAny (model prog w) A (call (.builtin "sorted") [.ref d]) Q E s := by
  obtain ⟨ep, hat⟩ := (kda_dict N hp hd).dictAt
  refine kdu_sorted (kdl_dict (knd := intKind prog w) (kvs := kvs) (ep := ep) lo) hh F N hat (by rw [sizeLine_eq]; omega) fun D h' tk vs F' N' lt hl hv => ?_
  have hi := ints_of hl hv
  have nz := N' _ (.head _)
  have F1 : ∀ {o f}, Fr h₀ L o m → Fr h₀ L (o.update D f) m := fun F => F.change (Heap.SameBut.update ..) nz.2.1 nz.2.2
  refine wpAny_call_entry PyProof.Rows.slot_list_sort ⟨_, nz.1, rfl⟩ PyProof.Rows.entry_list_sort (list_sort_tree (n := 0) (vs := vs) nz.1 hi (by omega) fun out ns' hI hp' hP => ⟨.none, rfl, ?_⟩) (PyProof.Rows.args_list_sort _)
  have x1 : ∀ p ∈ ([] : List (Addr × Obj)), p.1 ≠ D := fun p hp => nomatch hp
  have x2 : ∀ p ∈ news, p.1 ≠ D := fun p hp => Nat.ne_of_lt (lt p hp)
  have N1 := ki_turn (pre := []) (post := news) (fun _ => (#[] : Array Value)) (its' := #[]) (n' := _) N' x1 x2 rfl rfl
  have N2 := News.grown N1 fun _ _ e => Heap.get?_push_of_some (seqObj "tuple" vs.toArray 0) e
  have N3 := News.grown N2 fun _ _ e => Heap.get?_push_of_some (seqObj "list" #[] 0) e
  have N4 := ki_turn (pre := []) (post := news) (fun _ => out) (its' := out) (n' := _) N3 x1 x2 rfl rfl
  have F4 := F1 (f := Obj.mapSeq fun _ => out) (((F1 (f := Obj.mapSeq fun _ => (#[] : Array Value)) F').push (seqObj "tuple" vs.toArray 0)).push (seqObj "list" #[] 0))
  exact h D _ tk out.toList ns' _ F4 (by rw [Array.toArray_toList]; exact N4) lt hI hp' hP
end
end Mine
namespace Mine
section
variable {prog : Program} {w : World} {A : Around} {E : Value → Shared → Prop} {s : Shared}
theorem len_T {l : Addr} {vs : List Value} {Q : Value → Shared → Prop} (hl : IsTup s.heap l vs.toArray) (hz : vs.length ≤ 16777216) (h : Q (.int (vs.length : Int) (s.toks + 1)) { s with toks := s.toks + 1 + 1 }) :
    wpAny (model prog w) A (call (.builtin "len") [.ref l]) Q E s := len_tuple hl (by rw [List.size_toArray]; omega) (by rw [List.size_toArray]; exact h)
theorem tkey_of {h : Heap} {vs : List Value} {ns : List Int} {t : Addr} (ht : IsTup h t vs.toArray) (hi : IntsAre vs ns) : IsTupleKey (intKind prog w) h ns t := by
  obtain ⟨o, ho, hc, n, hd⟩ := ht
  refine ⟨o, vs.toArray, n, ho, hc, hd, ?_⟩
  rw [show vs.toArray.toList = vs from rfl]
  clear hd ho hc n
  induction hi with
  | nil => exact .nil
  | cons n t _ ih => exact .cons (intKind_is _ _ _ _) ih
theorem tkey_tup {h : Heap} {ns : List Int} {t : Addr} (x : IsTupleKey (intKind prog w) h ns t) : ∃ vs, IsTup h t vs.toArray ∧ IntsAre vs ns := by
  obtain ⟨o, items, n, ho, hc, hd, hi⟩ := x
  refine ⟨items.toList, ⟨o, ho, hc, n, by rw [hd]⟩, ?_⟩
  generalize items.toList = l at hi
  induction hi with
  | nil => exact .nil
  | cons h1 _ ih => obtain ⟨t, rfl⟩ := Value.isInt_shape h1; exact .cons _ _ ih
theorem notin_H {K : Type} [DecidableEq K] {knd : HeapKind prog w K} {a d : Addr} {k : K} {xs : List (K × Addr × Value)} {Q : Value → Shared → Prop} (hu : knd.room A.in1) (hkey : knd.is s.heap k a) (hd : (d == sysModules) = false) (hm : s.heap.DictOfH knd d xs)
    (h1 : atKey xs k = none → Q (.bool true) { s with toks := s.toks + knd.draws k }) (h2 : ∀ p, atKey xs k = some p → Q (.bool false) { s with toks := s.toks + knd.draws k }) : wpAny (model prog w) A (compareOp .NotIn (.ref a) (.ref d)) Q E s := by
  refine wpAny_notIn_heap hu hkey hd hm ?_
  cases e : atKey xs k with
  | none => exact h1 e
  | some p => exact h2 p e
theorem item_H {value slice : PySem.Expr} {K : Type} [DecidableEq K] {knd : HeapKind prog w K} {a d : Addr} {k : K} {xs : List (K × Addr × Value)} {p : Addr × Value} {Q : Value → Shared → Prop} (hu : knd.room A.in1) (hkey : knd.is s.heap k a) (hm : s.heap.DictOfH knd d xs) (hp : atKey xs k = some p)
    (h : Q p.2 { s with toks := s.toks + knd.draws k })
    (hs : subscripted slice false (.ref d) (.ref a) = operate [.ref d, .ref a] (getItem (.ref d) (.ref a)) := by with_unfolding_all rfl) (hg : ∀ r, letTemporaryGo value (.ref d) r = pure () := by intro _; with_unfolding_all rfl) :
    wpAny (model prog w) A (subscriptTail value slice (.ref d) (.ref a)) Q E s := subscriptTail_builtin hm.typeIs slot_dict_getitem.lookup (wpAny_getItem_heap hu hkey hm hp h) hs hg
theorem newTuple_S {items : List Value} {h₀ : Heap} {L : Addr} {m : Str → Option Value} {news : List (Addr × Obj)} {Q : Value → Shared → Prop} (F : Fr h₀ L s.heap m) (N : News h₀ L s.heap news)
    (h : ∀ D h', (s.heap.StaysIn h' ∧ s.heap.objs.size ≤ h'.objs.size) → Fr h₀ L h' m → News h₀ L h' ((D, { cls := .type "tuple", data := .seq items.toArray }) :: news) → (∀ q ∈ news, q.1 < D) → Q (.ref D) { s with heap := h' })
    (hsz : items.length ≤ sizeLine) : wpAny (model prog w) A (newTuple items) Q E s :=
  wpAny_newTuple (h _ _ ⟨fun b o e => Heap.get?_push_of_some _ e, by rw [size_push']; exact Nat.le_succ _⟩ (F.push _) (N.push F _) fun p hp => Heap.lt_size (N p hp).1) hsz
end
end Mine
end
section
theorem Mine.topOffNuReb : True := by
  w_top off
  k_with_none
  trivial
set_option linter.all false
open PySem PySem.W PyProof.Rows PySem.Calls PyProof.V PySem.Spec
set_option maxRecDepth 100000
namespace Mine
theorem rebase {M : List Addr} {g h h' : Heap} {L : Addr} {m : Str → Option Value} {news : List (Addr × Obj)} (F : Fr g L h m) (N : News g L h news) (K : Keep M h h') (hM : ∀ a ∈ M, ∃ o, g.get? a = some o) :
    Fr (hideAll g M) L h' m ∧ News (hideAll g M) L h' news := by
  have off : ∀ b, g.get? b = none → b ∉ M := fun b e hm => by obtain ⟨o, e'⟩ := hM b hm; rw [e] at e'; cases e'
  have Lg : L ∉ M := fun hm => by obtain ⟨o, e'⟩ := hM L hm; exact absurd (Heap.lt_size e') (Nat.not_lt.mpr F.above)
  refine ⟨⟨F.ns.at' fun o e => K L o Lg e, fun b ob e => ?_, by rw [hideAll_size]; exact F.above⟩, fun p hp => ?_⟩
  · by_cases hb : b ∈ M
    · rw [hideAll_none _ hb] at e; cases e
    · exact K b ob hb (F.keep b ob (of_hideAll _ e))
  · have z := N p hp
    refine ⟨K _ _ (off _ z.2.2) z.1, z.2.1, ?_⟩
    cases e : (hideAll g M).get? p.1 with
    | none => rfl
    | some o => rw [of_hideAll _ e] at z; cases z.2.2
theorem stays_hide {M : List Addr} {hs g : Heap} (S : hs.StaysIn g) (hm : ∀ a ∈ M, hs.get? a = none) : hs.StaysIn (hideAll g M) := fun b o e =>
  hideAll_get _ (S b o e) fun q => by rw [hm b q] at e; cases e
theorem Keep.of_same {d : Addr} {h h' : Heap} (x : Heap.SameBut d h h') : Keep [d] h h' := fun a o n e => (x.2 a (fun q => n (List.mem_singleton.mpr q))).trans e
theorem Keep.trans {M : List Addr} {a b c : Heap} (x : Keep M a b) (y : Keep M b c) : Keep M a c := fun p o n e => y p o n (x p o n e)
theorem Keep.mono {M M' : List Addr} {a b : Heap} (x : Keep M a b) (h : ∀ p ∈ M, p ∈ M') : Keep M' a b := fun p o n e => x p o (fun q => n (h p q)) e
theorem Keep.of_stay {M : List Addr} {a b : Heap} (x : a.StaysIn b) : Keep M a b := fun p o _ e => x p o e

theorem dict_obj {w : World} {h : Heap} {d : Addr} {kn : List (List Int × Addr × Value)} (x : h.DictOfH (tupleKind (iK w)) d kn) : ∃ o, h.get? d = some o ∧ o.cls = .type "dict" := let ⟨o, _, _, e, hc, _⟩ := x; ⟨o, e, hc.1⟩
theorem IsCirc.cn_ne {w : World} {h : Heap} {a : CA} {ns : List Node} {kn : List (List Int × Addr × Value)} (C : IsCirc w h a ns kn) : a.cn ≠ a.ck ∧ a.cn ≠ a.cp := by
  obtain ⟨o, e, c⟩ := dict_obj C.known
  obtain ⟨_, _, e1, _⟩ := C.kinds
  obtain ⟨_, _, e2, _⟩ := C.parts
  constructor
  · intro q; rw [q, e1] at e; cases e; exact absurd (show Value.type "list" = Value.type "dict" from c) (by decide)
  · intro q; rw [q, e2] at e; cases e; exact absurd (show Value.type "list" = Value.type "dict" from c) (by decide)
theorem IsCirc.setKnown {w : World} {h h' : Heap} {a : CA} {ns : List Node} {kn kn' : List (List Int × Addr × Value)} (C : IsCirc w h a ns kn) (K : Keep [a.cn] h h') (D : h'.DictOfH (tupleKind (iK w)) a.cn kn') : IsCirc w h' a ns kn' := by
  obtain ⟨o, e, c⟩ := dict_obj C.known
  have nt : ∀ t o, h.get? t = some o → o.cls = .type "tuple" → t ∉ [a.cn] := fun t o' e' c' hm => by
    rw [List.mem_singleton.mp hm, e] at e'; cases e'; rw [c] at c'; exact absurd c' (by decide)
  have q := C.cn_ne
  obtain ⟨t1, t2, t3, n, I⟩ := C.inst
  refine ⟨⟨t1, t2, t3, n, inst_keep K ?_ ?_ rfl I⟩, ?_, ?_, D, C.ne, C.ne2, C.lo⟩
  · intro hm; have e' := I.at_; rw [List.mem_singleton.mp hm, e] at e'; cases e'; exact absurd c (by intro h; cases h)
  · exact fun hm => C.ne2 (List.mem_singleton.mp hm)
  · obtain ⟨kvs, m, e1, r⟩ := C.kinds; exact ⟨kvs, m, K _ _ (fun hm => q.1 (List.mem_singleton.mp hm).symm) e1, r⟩
  · obtain ⟨kvs, m, e1, r⟩ := C.parts; exact ⟨kvs, m, K _ _ (fun hm => q.2 (List.mem_singleton.mp hm).symm) e1, r.mono fun _ _ x => x.keep K nt⟩
end Mine
end
section
theorem Mine.topOffNuPlain : True := by
  w_top off
  k_with_none
  trivial
set_option linter.all false
open PySem PySem.W PyProof.Rows PySem.Calls PyProof.V PySem.Spec
set_option maxRecDepth 100000
namespace Mine
noncomputable abbrev Kn := List (List Int × Addr × Value)
noncomputable def litOf (vs : List Bool) (x : Int) : Bool := (vs.getD x.natAbs false) == decide (0 < x)
noncomputable def ndval (inp : Nat → Bool) (vs : List Bool) : Node → Bool
  | .junk => true
  | .tru => true
  | .inp => inp vs.length
  | .conj ps => ps.all (litOf vs)
noncomputable def vals (inp : Nat → Bool) (ns : List Node) : List Bool := ns.foldl (fun vs nd => vs ++ [ndval inp vs nd]) []
noncomputable def lit (inp : Nat → Bool) (ns : List Node) (x : Int) : Bool := litOf (vals inp ns) x

theorem all_congr_mem {α : Type} {f g : α → Bool} : ∀ {l : List α}, (∀ x ∈ l, f x = g x) → l.all f = l.all g
  | [], _ => rfl
  | x :: l, h => by rw [List.all_cons, List.all_cons, h x (.head _), all_congr_mem fun y hy => h y (.tail _ hy)]
theorem vals_snoc (inp : Nat → Bool) (ns : List Node) (nd : Node) : vals inp (ns ++ [nd]) = vals inp ns ++ [ndval inp (vals inp ns) nd] := by
  unfold vals; rw [List.foldl_append]; rfl
theorem vals_go (inp : Nat → Bool) : ∀ (ns : List Node) (acc : List Bool), ∃ t, ns.foldl (fun vs nd => vs ++ [ndval inp vs nd]) acc = acc ++ t ∧ t.length = ns.length
  | [], acc => ⟨[], by simp⟩
  | nd :: ns, acc => by
    obtain ⟨t, e, l⟩ := vals_go inp ns (acc ++ [ndval inp acc nd])
    exact ⟨ndval inp acc nd :: t, by rw [List.foldl_cons, e]; simp, by simp [l]⟩
theorem vals_len (inp : Nat → Bool) (ns : List Node) : (vals inp ns).length = ns.length := by
  obtain ⟨t, e, l⟩ := vals_go inp ns []
  unfold vals; rw [e]; simpa using l
theorem vals_app (inp : Nat → Bool) (ns more : List Node) : ∃ t, vals inp (ns ++ more) = vals inp ns ++ t := by
  unfold vals; rw [List.foldl_append]
  obtain ⟨t, e, _⟩ := vals_go inp more (ns.foldl (fun vs nd => vs ++ [ndval inp vs nd]) [])
  exact ⟨t, e⟩
theorem litOf_app {vs t : List Bool} {x : Int} (h : x.natAbs < vs.length) : litOf (vs ++ t) x = litOf vs x := by
  unfold litOf; rw [List.getD_eq_getElem?_getD, List.getD_eq_getElem?_getD, List.getElem?_append_left h]
theorem lit_app {inp : Nat → Bool} {ns more : List Node} {x : Int} (h : x.natAbs < ns.length) : lit inp (ns ++ more) x = lit inp ns x := by
  obtain ⟨t, e⟩ := vals_app inp ns more
  unfold lit; rw [e]; exact litOf_app (by rw [vals_len]; exact h)
theorem vals_at {inp : Nat → Bool} {ns : List Node} {i : Nat} {nd : Node} (h : ns[i]? = some nd) : ∃ pre more, ns = pre ++ nd :: more ∧ pre.length = i ∧ (vals inp ns).getD i false = ndval inp (vals inp pre) nd := by
  obtain ⟨hi, e⟩ := List.getElem?_eq_some_iff.mp h
  refine ⟨ns.take i, ns.drop (i + 1), ?_, by rw [List.length_take]; omega, ?_⟩
  · rw [← e, ← List.drop_eq_getElem_cons hi, List.take_append_drop]
  · have e2 : ns = (ns.take i ++ [nd]) ++ ns.drop (i + 1) := by
      rw [List.append_assoc, List.singleton_append, ← e, ← List.drop_eq_getElem_cons hi, List.take_append_drop]
    obtain ⟨t, e3⟩ := vals_app inp (ns.take i ++ [nd]) (ns.drop (i + 1))
    rw [← e2, vals_snoc] at e3
    have l : (vals inp (ns.take i)).length = i := by rw [vals_len, List.length_take]; omega
    rw [e3, List.getD_eq_getElem?_getD, List.append_assoc, List.getElem?_append_right (by omega), l]
    simp
structure Good (ns : List Node) (kn : Kn) : Prop where
  junk : ns[0]? = some .junk
  tru : ns[1]? = some .tru
  parts : ∀ (i : Nat) (ps : List Int), ns[i]? = some (.conj ps) → ps.length ≤ 8 ∧ ∀ x ∈ ps, 0 < x.natAbs ∧ x.natAbs < i
  known : ∀ e ∈ kn, ∃ (i : Nat) (t : Tok), e.2.2 = .int i t ∧ ns[i]? = some (.conj e.1)
  klen : kn.length ≤ ns.length
noncomputable def Lit (ns : List Node) (x : Int) : Prop := 0 < x.natAbs ∧ x.natAbs < ns.length
theorem lit_conj {inp : Nat → Bool} {ns : List Node} {kn : Kn} (G : Good ns kn) {i : Nat} {ps : List Int} (h : ns[i]? = some (.conj ps)) (h0 : 0 < i) : lit inp ns (i : Int) = ps.all (lit inp ns) := by
  obtain ⟨pre, more, e, l, v⟩ := vals_at (inp := inp) h
  unfold lit litOf
  rw [show ((i : Int)).natAbs = i from rfl, v, decide_eq_true (by omega)]
  simp only [beq_true]
  show ps.all (litOf (vals inp pre)) = _
  refine all_congr_mem fun x hx => ?_
  have hp := (G.parts i ps h).2 x hx
  show lit inp pre x = lit inp ns x
  rw [e, lit_app (by omega)]
theorem lit_one {inp : Nat → Bool} {ns : List Node} {kn : Kn} (G : Good ns kn) : lit inp ns 1 = true := by
  obtain ⟨pre, more, e, l, v⟩ := vals_at (inp := inp) G.tru
  unfold lit litOf
  rw [show (1 : Int).natAbs = 1 from rfl, v]; rfl
theorem lit_neg {inp : Nat → Bool} {ns : List Node} {x : Int} (h : 0 < x.natAbs) : lit inp ns (-x) = !lit inp ns x := by
  unfold lit litOf
  rw [Int.natAbs_neg]
  have : decide (0 < -x) = !decide (0 < x) := by
    rw [← decide_not]; exact decide_eq_decide.mpr (by omega)
  rw [this]
  cases (vals inp ns).getD x.natAbs false <;> cases decide (0 < x) <;> rfl
theorem Lit.neg {ns : List Node} {x : Int} (h : Lit ns x) : Lit ns (-x) := by unfold Lit; rw [Int.natAbs_neg]; exact h
theorem Good.lit1 {ns : List Node} {kn : Kn} (G : Good ns kn) : Lit ns 1 := ⟨by decide, (List.getElem?_eq_some_iff.mp G.tru).1⟩
/-- how a circuit grew -/
structure Grew (k : Nat) (ns ns' : List Node) (kn' : Kn) : Prop where
  good : Good ns' kn'
  pre : ∃ more, ns' = ns ++ more ∧ more.length ≤ k
theorem Grew.refl {k : Nat} {ns : List Node} {kn : Kn} (G : Good ns kn) : Grew k ns ns kn := ⟨G, [], by simp, Nat.zero_le _⟩
theorem Grew.trans {j k : Nat} {a b c : List Node} {k1 k2 : Kn} (x : Grew j a b k1) (y : Grew k b c k2) : Grew (j + k) a c k2 := by
  obtain ⟨m1, e1, l1⟩ := x.pre
  obtain ⟨m2, e2, l2⟩ := y.pre
  exact ⟨y.good, m1 ++ m2, by rw [e2, e1, List.append_assoc], by rw [List.length_append]; omega⟩
theorem Grew.mono {j k : Nat} {a b : List Node} {k1 : Kn} (x : Grew j a b k1) (h : j ≤ k) : Grew k a b k1 := let ⟨m, e, l⟩ := x.pre; ⟨x.good, m, e, Nat.le_trans l h⟩
theorem Grew.len {j : Nat} {a b : List Node} {k1 : Kn} (x : Grew j a b k1) : b.length ≤ a.length + j := by obtain ⟨m, e, l⟩ := x.pre; rw [e, List.length_append]; omega
theorem Grew.lit {k : Nat} {ns ns' : List Node} {kn : Kn} {x : Int} (G : Grew k ns ns' kn) (h : Lit ns x) : Lit ns' x := by
  obtain ⟨m, e, _⟩ := G.pre; refine ⟨h.1, ?_⟩; rw [e, List.length_append]; exact Nat.lt_of_lt_of_le h.2 (Nat.le_add_right _ _)
theorem Grew.same {k : Nat} {ns ns' : List Node} {kn : Kn} {x : Int} {inp : Nat → Bool} (G : Grew k ns ns' kn) (h : Lit ns x) : Mine.lit inp ns' x = Mine.lit inp ns x := by
  obtain ⟨m, e, _⟩ := G.pre; rw [e]; exact lit_app h.2

noncomputable def PsOf (xs ps : List Int) : Prop := ∀ x, x ∈ ps ↔ x ∈ xs ∧ x ≠ 1
inductive AllR (xs : List Int) (ns : List Node) (kn : Kn) : Int → List Node → Kn → Prop
  | fls : (-1 ∈ xs ∨ ∃ x ∈ xs, -x ∈ xs) → AllR xs ns kn (-1) ns kn
  | none : PsOf xs [] → AllR xs ns kn 1 ns kn
  | single (x : Int) : PsOf xs [x] → AllR xs ns kn x ns kn
  | old (ps : List Int) (tp : Addr) (r : Int) (t : Tok) : PsOf xs ps → atKey kn ps = some (tp, .int r t) → AllR xs ns kn r ns kn
  | new (ps : List Int) (tp : Addr) (t : Tok) : PsOf xs ps → ps.length ≤ 8 → AllR xs ns kn (ns.length : Int) (ns ++ [.conj ps]) (kn ++ [(ps, tp, .int (ns.length : Int) t)])
theorem psOf_all {xs ps : List Int} (h : PsOf xs ps) {f : Int → Bool} (h1 : f 1 = true) : ps.all f = xs.all f := by
  rw [Bool.eq_iff_iff, List.all_eq_true, List.all_eq_true]
  constructor
  · intro a x hx
    by_cases e : x = 1
    · rw [e]; exact h1
    · exact a x ((h x).mpr ⟨hx, e⟩)
  · intro a x hx; exact a x ((h x).mp hx).1
theorem atKey_mem {kn : Kn} {ps : List Int} {p : Addr × Value} (h : atKey kn ps = some p) : (ps, p.1, p.2) ∈ kn := by
  unfold atKey at h
  obtain ⟨e, h1, rfl⟩ := Option.map_eq_some_iff.mp h
  have h2 := List.find?_some h1
  have h3 := List.mem_of_find?_eq_some h1
  simp only [decide_eq_true_eq] at h2
  rw [← h2]; exact h3
theorem all_plain {xs : List Int} {ns ns' : List Node} {kn kn' : Kn} {r : Int} (G : Good ns kn) (hx : ∀ x ∈ xs, Lit ns x) (R : AllR xs ns kn r ns' kn') :
    Grew 1 ns ns' kn' ∧ Lit ns' r ∧ ∀ inp, lit inp ns' r = xs.all (lit inp ns) := by
  cases R with
  | fls h =>
    refine ⟨.refl G, G.lit1.neg, fun inp => ?_⟩
    rw [lit_neg (by decide), lit_one G]
    refine Eq.symm (Bool.eq_false_iff.mpr fun q => ?_)
    rw [List.all_eq_true] at q
    rcases h with h | ⟨x, h1, h2⟩
    · have := q _ h; rw [lit_neg (by decide), lit_one G] at this; cases this
    · have a := q _ h1
      have b := q _ h2
      rw [lit_neg (hx x h1).1, a] at b; cases b
  | none h => exact ⟨.refl G, G.lit1, fun inp => by rw [← psOf_all h (lit_one G), lit_one G]; rfl⟩
  | single x h => exact ⟨.refl G, hx _ ((h r).mp (List.mem_singleton.mpr rfl)).1, fun inp => by rw [← psOf_all h (lit_one G)]; simp⟩
  | old ps tp r t h ha =>
    obtain ⟨i, t', e, hi⟩ := G.known _ (atKey_mem ha)
    cases e
    have hi0 : 0 < i := by
      rcases Nat.eq_zero_or_pos i with rfl | h
      · rw [G.junk] at hi; cases hi
      · exact h
    exact ⟨.refl G, ⟨hi0, (List.getElem?_eq_some_iff.mp hi).1⟩, fun inp => by rw [lit_conj G hi hi0]; exact psOf_all h (lit_one G)⟩
  | new ps tp t h hl =>
    have l0 := (List.getElem?_eq_some_iff.mp G.tru).1
    have old : ∀ {i : Nat} {nd : Node}, ns[i]? = some nd → (ns ++ [Node.conj ps])[i]? = some nd := fun {i nd} e => by
      rw [List.getElem?_append_left (List.getElem?_eq_some_iff.mp e).1]; exact e
    have G' : Good (ns ++ [Node.conj ps]) (kn ++ [(ps, tp, .int (ns.length : Int) t)]) := by
      refine ⟨old G.junk, old G.tru, fun i qs e => ?_, fun e he => ?_, by rw [List.length_append, List.length_append]; exact Nat.succ_le_succ G.klen⟩
      · rcases Nat.lt_trichotomy i ns.length with q | q | q
        · rw [List.getElem?_append_left q] at e; exact G.parts i qs e
        · subst q
          simp at e; subst e
          exact ⟨hl, fun x hx' => hx x ((h x).mp hx').1⟩
        · rw [List.getElem?_eq_none (by simp; omega)] at e; cases e
      · rcases List.mem_append.mp he with he | he
        · obtain ⟨i, t', e1, e2⟩ := G.known e he; exact ⟨i, t', e1, old e2⟩
        · rw [List.mem_singleton.mp he]; exact ⟨ns.length, t, rfl, by simp⟩
    refine ⟨⟨G', _, rfl, Nat.le_refl _⟩, ⟨by show 0 < ns.length; omega, by show ns.length < _; simp⟩, fun inp => ?_⟩
    rw [lit_conj G' (i := ns.length) (ps := ps) (by simp) (by omega), psOf_all (xs := xs) h (lit_one G')]
    exact all_congr_mem fun x hx' => lit_app (hx x hx').2
end Mine
end
section
set_option linter.all false
open PySem PySem.W PyProof.Rows PySem.Calls PyProof.V PySem.Spec
set_option maxRecDepth 100000
namespace Mine
theorem wordsNuAll : True := by
  w_top off
  k_with_none
  k_with "call ref" => (k_here; (with_reducible show wpAny _ _ (call (Value.ref 164) [Value.ref _, Value.int _ _]) _ _ _); k_dflt (refine' next_K ?F ?N ?X ?T ?U ?dp ?un ?d ?k0 ?k1 ?w ?w2 ?c ?i ?ns ?ca ?_; (case F => k_asm); (case N => k_asm); (case X => k_asm); (case T => k_asm); (case U => k_updF); (case dp => omega); (case un => omega); (case d => k_asm); (case c => is_list); (case i => assumption); (case k0 => omega); (case k1 => omega); (case w => omega); (case w2 => omega); (case ns => assumption); (case ca => assumption)); intro h'ω o'ω r'ω tr'ω tk'ω tq'ω F'ω N'ω d'ω r0'ω r1'ω kp'ω; (try dsimp only at N'ω))
  k_with "call builtin:len" => (k_here; (with_reducible show wpAny _ _ (call (Value.builtin "len") [Value.ref _]) _ _ _); k_dflt (refine' len_G ?l ?z ?_; (case l => is_list); (case z => omega)))
  k_with "subscriptTail" => (k_here; (with_reducible show wpAny _ _ (subscriptTail _ _ (Value.ref _) (Value.int _ _)) _ _ _); k_dflt (refine' item_G ?l ?k0 ?k1 ?z ?_ ?hs; (case l => is_list); (case k0 => first | assumption | omega); (case k1 => first | assumption | omega); (case z => first | assumption | omega); (case hs => with_unfolding_all rfl)); intro v'ω hv'ω)
  k_with "eval ListComp" => (k_here; refine stop_intro ?_)
  k_with "eval Name" => (k_dflt (refine' name_loc ?n ?v ?k ?l ?d ?_; (case n => assumption); (case v => assumption); (case k => exact rfl); (case l => exact rfl); (case d => decide)))
  k_with "subscriptTail" => (k_here; (with_reducible show wpAny _ _ (subscriptTail _ _ (Value.ref _) (Value.int _ _)) _ _ _); k_dflt (refine' item_bools ?l ?k0 ?k1 ?z ?_ ?hs; (case l => is_list); (case k0 => first | assumption | omega); (case k1 => first | assumption | omega); (case z => first | assumption | omega); (case hs => with_unfolding_all rfl)))
  k_with "compareOp In" => (k_here; (with_reducible show wpAny _ _ (compareOp CmpOp.In (Value.bool _) (Value.ref _)) _ _ _); k_dflt (refine' in_bools ?l ?_; (case l => is_list)))
  k_with "compareOp NotIn" => (k_here; (with_reducible show wpAny _ _ (compareOp CmpOp.NotIn (Value.bool _) (Value.ref _)) _ _ _); k_dflt (refine' notin_bools ?l ?_; (case l => is_list)))
  k_with "exec For" => (k_here; refine stop_intro ?_)
  k_with "exec For Name Call cons nil" => (k_here; refine stop_intro ?_)
  k_with "exec For Name Name cons nil" => (k_here; refine stop_intro ?_)
  k_with "exec For Tuple Name cons nil" => (k_here; refine stop_intro ?_)
  k_with "exec For Name Attribute cons nil" => (k_here; refine stop_intro ?_)
  k_with "setItem ref int" => (k_here; k_dflt (refine' kda_set (knd := PySem.intKind _ _) ?F ?N ?U ?d (intKind_is _ _ _ _) ?z ?_; (case F => k_asm); (case N => k_asm); (case U => k_updF); (case d => k_asm); (case z => (rw [sizeLine_eq]; omega))); intro h'ω o'ω F'ω N'ω hd'ω; (try dsimp only at N'ω))
  k_with "call builtin:len" => (k_here; (with_reducible show wpAny _ _ (call (Value.builtin "len") [Value.ref _]) _ _ _); k_dflt (refine' len_A ?l ?z ?_; (case l => is_list); (case z => (simp only [Array.size_push, List.size_toArray]; omega))))
  k_with "compareOp In" => (k_here; (with_reducible show wpAny _ _ (compareOp CmpOp.In (Value.int _ _) (Value.ref _)) _ _ _); k_dflt (refine' kda_in (knd := PySem.intKind _ _) ?N ?mem ?hd ?lo (intKind_is _ _ _ _) _ rfl ?_; (case N => k_asm); (case mem => k_mem); (case hd => k_asm); (case lo => assumption)))
  k_with "newTuple" => (k_here; k_dflt (refine' newTuple_S ?F ?N ?_ ?z; (case F => k_asm); (case N => k_asm); (case z => kmk_size)); intro D'ω h'ω St'ω F'ω N'ω l1ω; (try k_lt l1ω))
  trivial
noncomputable def IntSeq (h : Heap) (v : Value) (xs : List Int) : Prop := ∃ l vs, v = .ref l ∧ IntsAre vs xs ∧ (h.IsList l vs.toArray ∨ IsTup h l vs.toArray)
theorem IntSeq.stay {h h' : Heap} {v : Value} {xs : List Int} (k : h.StaysIn h') (x : IntSeq h v xs) : IntSeq h' v xs :=
  let ⟨l, vs, e, i, r⟩ := x; ⟨l, vs, e, i, r.imp (stay_list k) (stay_tup k)⟩
noncomputable def AllSeen (xs : List Int) (kvs : List (Int × Value)) : Prop := (∀ p ∈ kvs, p.1 ∈ xs ∧ p.1 ≠ 1) ∧ ∀ x ∈ xs, x = 1 ∨ x ∈ kvs.map (·.1)
theorem AllSeen.ps {xs : List Int} {kvs : List (Int × Value)} (h : AllSeen xs kvs) {ns : List Int} (p : ns.Perm (kvs.map (·.1))) : PsOf xs ns := fun x => by
  rw [p.mem_iff]
  constructor
  · intro hx
    obtain ⟨q, hq, rfl⟩ := List.mem_map.mp hx
    exact h.1 q hq
  · exact fun ⟨h1, h2⟩ => (h.2 x h1).resolve_left h2
theorem stored_mem {kvs : List (Int × Value)} {k : Int} {v : Value} {p : Int × Value} (h : p ∈ stored kvs k v) : p ∈ kvs ∨ p.1 = k := by
  unfold stored at h
  split at h
  · obtain ⟨q, hq, rfl⟩ := List.mem_map.mp h
    by_cases e : q.1 = k
    · right; simp [e]
    · left; simpa [e] using hq
  · rcases List.mem_append.mp h with h | h
    · exact .inl h
    · right; rw [List.mem_singleton.mp h]
theorem stored_keys {kvs : List (Int × Value)} {k : Int} {v : Value} {x : Int} (h : x ∈ kvs.map (·.1) ∨ x = k) : x ∈ (stored kvs k v).map (·.1) := by
  have key : (valueAt (stored kvs k v) x).isSome = true := by
    rw [valueAt_stored']
    by_cases e : x = k
    · rw [if_pos e]; rfl
    · rw [if_neg e]
      obtain ⟨q, hq, rfl⟩ := List.mem_map.mp (h.resolve_right e)
      unfold valueAt
      rw [Option.isSome_map, List.find?_isSome]
      exact ⟨q, hq, by simp⟩
  unfold valueAt at key
  rw [Option.isSome_map, List.find?_isSome] at key
  obtain ⟨q, hq, e⟩ := key
  exact List.mem_map.mpr ⟨q, hq, by simpa using e⟩
theorem stored_len {kvs : List (Int × Value)} {k : Int} {v : Value} : (stored kvs k v).length ≤ kvs.length + 1 := by
  unfold stored
  split <;> simp
theorem valueAt_mem {kvs : List (Int × Value)} {x : Int} (h : (valueAt kvs x).isSome = true) : ∃ p ∈ kvs, p.1 = x := by
  unfold valueAt at h
  rw [Option.isSome_map, List.find?_isSome] at h
  obtain ⟨q, hq, e⟩ := h
  exact ⟨q, hq, by simpa using e⟩
theorem take_mem_succ {xs : List Int} {i : Nat} (hi : i < xs.length) (x : Int) : x ∈ xs.take (i + 1) ↔ x ∈ xs.take i ∨ x = xs[i] := by
  rw [List.take_succ_eq_append_getElem hi, List.mem_append, List.mem_singleton]
theorem atKey_last {kn : Kn} {ps : List Int} {p : Addr × Value} (h : atKey kn ps = none) : atKey (kn ++ [(ps, p)]) ps = some p := by
  unfold atKey at h ⊢
  rw [List.find?_append]
  cases e : kn.find? fun x => decide (x.1 = ps) with
  | none => simp
  | some y => rw [e] at h; cases h
inductive AllInv (w : World) (d l : Addr) (a : CA) (xs : List Int) (i : Nat) (m' : Str → Option Value) (nx : List (Addr × Obj)) : Prop
  | mk : ∀ o' kvs b, (nx = [(d, o')]) → (o'.IsDictOf (PySem.intKind PySem.Challenge.rw_nu0266_01.row.prog w) kvs) → (AllSeen (xs.take i) kvs) → (kvs.length ≤ i) → (m' = (fun y => if y = Str.ofString "g" then b else if y = Str.ofString "found" then some (Value.ref d) else List.lookup y [(Str.ofString "self", Value.ref a.ci), (Str.ofString "gates", Value.ref l)].reverse)) → AllInv w d l a xs i m' nx
set_option maxHeartbeats 4000000 in
theorem all_t {w : World} {mean : ExcName → Option Value} {mg mb : Str → Option Value} {hs : Heap} {dp un : Nat} {fr : Option (List Env)} {gd : Option (List Code)} {s : Shared} {Q E : Value → Shared → Prop}
   (C : Ctx w mean mg mb hs) (S : hs.StaysIn s.heap) (a : CA) (ns : List Node) (kn : List (List Int × Addr × Value)) (CC : IsCirc w s.heap a ns kn) (G : Good ns kn) (hf1 : hs.get? a.ck = none) (hf2 : hs.get? a.cp = none) (hf3 : hs.get? a.cn = none) (xs : List Int) (gs : Value) (hgs : IntSeq s.heap gs xs)
   (hdp : dp ≤ 700) (hun : un ≤ 8800) (hlen : ns.length ≤ 900) (hxl : xs.length ≤ 8)
   (hQ : ∀ h' r t' tk ns' kn', AllR xs ns kn r ns' kn' → IsCirc w h' a ns' kn' → Keep [a.ck, a.cp, a.cn] s.heap h' → s.heap.objs.size ≤ h'.objs.size → Q (.int r t') { s with heap := h', toks := tk }) :
   wpAny (model PySem.Challenge.rw_nu0266_01.row.prog w) (At dp un fr gd) (call (.ref 77) [.ref a.ci, gs]) Q E s := by
  have X0 := C.X
  revert X0
  k_fill
  intro X0
  obtain ⟨l, vs, rfl, hi, hlt⟩ := hgs
  refine' enter (binds := [(Str.ofString "self", .ref a.ci), (Str.ofString "gates", .ref l)]) [] C S ?ho ?hcd ?hr ?hm ?hn ?hbind ?hcell ?hloc ?_ ?hco ?hg ?hk
  case ho => k_is
  case hcd => k_is
  case hr => exact Nat.lt_of_le_of_lt hdp (by decide)
  case hm => intro p hp; cases hp
  case hn => intro p hp; cases hp
  case hbind => exact BindsTo.of_eq rfl
  case hcell => decide
  case hloc => exact locs rfl
  case hco => exact rfl
  case hg => exact rfl
  case hk => exact rfl
  intro g L' h₁ fr' tk0 K0' F N X T St Of Sz
  have K0 : s.heap.StaysIn g := fun b o e => K0' b o (by simp) e
  clear K0'
  have CG := CC.stay K0
  have hlt' : g.IsList l vs.toArray ∨ IsTup g l vs.toArray := hlt.imp (stay_list K0) (stay_tup K0)
  obtain ⟨t1, t2, t3, n, I⟩ := CG.inst
  have e1 := hi.length
  k_steps
  unfold Stop
  rename Fr _ _ _ _ => F9
  rename News _ _ _ _ => N9
  rename Obj.IsDictOf (PySem.intKind _ _) _ _ => hi₀
  rename (_ == sysModules) = false => lo₀
  rename_i d _ o₀ _ _ _ _ _
  refine' for_K F9 (AllInv w d l a xs) ?_ ?hs
  case hs => intro _; with_unfolding_all rfl
  k_steps
  rename Fr _ _ _ _ => F8
  rename News _ _ _ _ => N8
  refine' ⟨_, _, _, _, [(d, o₀)], iter_seq rfl F8.keep hlt', F8, N8, ?J0, ?src, ?step, ?done⟩
  case J0 =>
    refine ⟨o₀, [], _, rfl, hi₀, ⟨(fun p hp => nomatch hp), fun x hx => by simp at hx⟩, Nat.le_refl _, upd1_eq _ _⟩
  case src =>
    intro b hb
    rw [List.mem_singleton.mp hb]
    exact .inl (hlt'.elim (fun ⟨o, e, _⟩ => ⟨o, e⟩) (fun ⟨o, e, _⟩ => ⟨o, e⟩))
  case done =>
    rintro h tk m' news' F' N' ⟨o', kvs, b, rfl, hd', ht', hl', rfl⟩
    have hkl : kvs.length ≤ 8 := by
      rw [List.size_toArray, e1] at hl'
      exact Nat.le_trans hl' hxl
    k_steps
    rename Fr _ _ _ _ => F7
    rename News _ _ _ _ => N7
    refine sorted_D rfl F7 N7 (by simp) hd' lo₀ (Nat.lt_of_le_of_lt hkl (by decide)) ?_
    intro D h' tk vs' ns' e F' N' lt hi2 hperm hord
    k_steps
    have e2 := hi2.length
    have e3 := hperm.length_eq
    rw [List.length_map] at e3
    have hl8 : ns'.length ≤ 8 := by rw [e3]; exact hkl
    rename Fr _ _ _ _ => F6
    rename News _ _ _ _ => N6
    refine kde_tupleOf F6 N6 (News.isList N6 (.head _)) (by rw [List.size_toArray, e2]; exact Nat.le_trans hl8 (by decide)) rfl ?_
    intro tp h' F' N' lt'
    have hseen : PsOf xs ns' := AllSeen.ps (by
      have := ht'
      rw [List.size_toArray, e1, List.take_length] at this
      exact this) hperm
    k_steps
    rename Fr _ _ _ _ => F5
    rename News _ _ _ _ => N5
    refine len_T (vs := vs') (News.isTup N5 (.head _)) (by rw [e2]; exact Nat.le_trans hl8 (by decide)) ?_
    k_steps
    · refine len_T (vs := vs') (News.isTup N5 (.head _)) (by rw [e2]; exact Nat.le_trans hl8 (by decide)) ?_
      k_steps
      · have hx1 : ns'.length = 1 := by omega
        obtain ⟨x, rfl⟩ := List.length_eq_one_iff.mp hx1
        exact hQ _ _ _ _ _ _ (.single x hseen) (CG.stay F5.keep) (Keep.of_stay fun b o e => F5.keep b o (K0 b o e)) (size_of_fr Sz F5)
      · have hx0 : ns'.length = 0 := by omega
        have := List.eq_nil_of_length_eq_zero hx0
        subst this
        exact hQ _ _ _ _ _ _ (.none hseen) (CG.stay F5.keep) (Keep.of_stay fun b o e => F5.keep b o (K0 b o e)) (size_of_fr Sz F5)
    · have C5 := CG.stay F5.keep
      have tk5 := tkey_of (prog := PySem.Challenge.rw_nu0266_01.row.prog) (w := w) (News.isTup (items := vs'.toArray) N5 (.head _)) hi2
      refine notin_H (knd := tupleKind (iK w)) (tupleKind_room_in1 (by show un + 3 + 1 < cLine; rw [show cLine = 9900 from rfl]; omega)) tk5 C5.lo C5.known (fun hnew => ?_) fun p hold => ?_
      · k_steps
        refine gate_spec C (fun b o e => F5.keep b o (St b o e)) a ns kn C5 hf1 hf2 (Str.ofString "and") _ tp (.conj ns') rfl tk5 (Nat.le_trans (Nat.succ_le_succ hdp) (by decide)) (Nat.le_trans (Nat.add_le_add_right hun 3) (by decide)) (by omega) ?_
        intro h6 t6 tk6 K6 Sz6 C6
        have ckg : ∀ b ∈ [a.ck, a.cp], ∃ o, g.get? b = some o := by
          obtain ⟨_, _, x1, _⟩ := CG.kinds
          obtain ⟨_, _, x2, _⟩ := CG.parts
          exact List.forall_mem_cons.mpr ⟨⟨_, x1⟩, List.forall_mem_cons.mpr ⟨⟨_, x2⟩, List.forall_mem_nil _⟩⟩
        obtain ⟨F6, N6⟩ := rebase F5 N5 K6 ckg
        have St6 := stays_hide (M := [a.ck, a.cp]) St (List.forall_mem_cons.mpr ⟨hf1, List.forall_mem_cons.mpr ⟨hf2, List.forall_mem_nil _⟩⟩)
        have X6 := Frag.In.keeps C.X St6
        have T6 := C.T.keeps St6
        have stay5 : s.heap.StaysIn _ := fun b o e => F5.keep b o (K0 b o e)
        have sz5 := size_of_fr Sz F5
        clear F5 N5 X T
        obtain ⟨u1, u2, u3, n6, I6⟩ := C6.inst
        k_steps
        have tkA := tkey_keep K6 (by
          obtain ⟨o5, eo5, c5⟩ := tkey_obj tk5
          obtain ⟨_, _, x1, _⟩ := C5.kinds
          obtain ⟨_, _, x2, _⟩ := C5.parts
          intro hm
          rcases List.mem_cons.mp hm with q | q
          · rw [q, x1] at eo5; cases eo5; exact absurd (show Value.type "list" = Value.type "tuple" from c5) (by decide)
          · rw [List.mem_singleton.mp q, x2] at eo5; cases eo5; exact absurd (show Value.type "list" = Value.type "tuple" from c5) (by decide)) tk5
        refine wpAny_setItem_heap (knd := tupleKind (iK w)) (tupleKind_room_in1 (by show un + 3 + 1 < cLine; rw [show cLine = 9900 from rfl]; omega)) tkA C6.known (fun h7 D7 S7 => ?_) ?sz
        case sz => exact Nat.le_trans G.klen (Nat.le_trans hlen (by rw [sizeLine_eq]; omega))
        rw [storedH_new hnew] at D7
        have K7 := Keep.of_same S7
        have C7 := C6.setKnown K7 D7
        have cng : ∀ b ∈ [a.cn], ∃ o, (hideAll g [a.ck, a.cp]).get? b = some o := by
          obtain ⟨o, x1, _⟩ := dict_obj CG.known
          intro b hb
          rw [List.mem_singleton.mp hb]
          exact ⟨o, hideAll_get _ x1 (by
            intro hm
            rcases List.mem_cons.mp hm with q | q
            · exact CG.cn_ne.1 q
            · exact CG.cn_ne.2 (List.mem_singleton.mp q))⟩
        obtain ⟨F7, N7⟩ := rebase F6 N6 K7 cng
        have St7 := stays_hide (M := [a.cn]) St6 (List.forall_mem_cons.mpr ⟨hf3, List.forall_mem_nil _⟩)
        have X7 := Frag.In.keeps C.X St7
        have T7 := C.T.keeps St7
        clear F6 N6 X6 T6
        obtain ⟨u1, u2, u3, n7, I7⟩ := C7.inst
        k_steps
        refine item_H (knd := tupleKind (iK w)) (k := ns') (p := (tp, .int (ns.length : Int) t6)) (tupleKind_room_in1 (by show un + 3 + 1 < cLine; rw [show cLine = 9900 from rfl]; omega)) (C7.known |> fun ⟨_, _, _, _, _, _, _, i, _⟩ => i _ (List.mem_append_right _ (.head _))) C7.known (atKey_last hnew) ?_
        k_steps
        try dsimp only
        refine hQ _ _ _ _ _ _ (.new ns' tp t6 hseen hl8) C7 (Keep.trans (Keep.trans (Keep.of_stay stay5) (K6.mono ?_)) (K7.mono ?_)) (Nat.le_trans sz5 (Nat.le_trans Sz6 ?_))
        · intro p hp
          rcases List.mem_cons.mp hp with rfl | hp
          · exact .head _
          · exact .tail _ (List.mem_singleton.mp hp ▸ .head _)
        · intro p hp
          exact .tail _ (.tail _ (List.mem_singleton.mp hp ▸ .head _))
        · exact Nat.le_of_eq S7.1.symm
      · k_steps
        obtain ⟨tp0, v0⟩ := p
        obtain ⟨i0, t0, ev, hi0⟩ := G.known _ (atKey_mem hold)
        cases ev
        refine item_H (knd := tupleKind (iK w)) (tupleKind_room_in1 (by show un + 3 + 1 < cLine; rw [show cLine = 9900 from rfl]; omega)) tk5 C5.known hold ?_
        k_steps
        try dsimp only
        exact hQ _ _ _ _ _ _ (.old ns' tp0 i0 t0 hseen hold) C5 (Keep.of_stay fun b o e => F5.keep b o (K0 b o e)) (size_of_fr Sz F5)
  case step =>
    rintro i v m₁ news₁ h tk I oI hi' hv ⟨o', kvs, b, rfl, hd', ht', hl', rfl⟩ hI F' N' dI
    have hI' : @Ne Nat d I := hI _ (.head _)
    have hdz : d ≠ sysModules := by rintro rfl; exact absurd lo₀ (by decide)
    have hilt : i < xs.length := by rw [List.size_toArray, e1] at hi'; exact hi'
    obtain ⟨t', hv2⟩ := hi.get i _ (List.getElem?_eq_getElem hilt)
    have hv3 : v = .int xs[i] t' := by
      have : vs[i]? = some v := by simpa using hv
      rw [hv2] at this; exact (Option.some.inj this).symm
    subst hv3
    k_steps
    · exact hQ _ _ _ _ _ _ (.fls (.inl (by rename xs[i] = -1 => e; exact e ▸ List.getElem_mem hilt))) (CG.stay (Fr.keep (by assumption))) (Keep.of_stay fun b o e => Fr.keep (by assumption) b o (K0 b o e)) (size_of_fr Sz (by assumption))
    · refine hQ _ _ _ _ _ _ (.fls (.inr ⟨xs[i], List.getElem_mem hilt, ?_⟩)) (CG.stay (Fr.keep (by assumption))) (Keep.of_stay fun b o e => Fr.keep (by assumption) b o (K0 b o e)) (size_of_fr Sz (by assumption))
      rename (valueAt _ _).isSome = true => hv
      obtain ⟨p, hp, e⟩ := valueAt_mem hv
      exact e ▸ List.mem_of_mem_take (ht'.1 p hp).1
    · rename Obj.IsDictOf _ _ (stored _ _ _) => hd2
      refine TurnPost.next (news := [(d, _)]) (by assumption) (by assumption) (.head _) (fun p hp => .tail _ hp) (fun p hp => by rw [List.mem_singleton.mp hp]; exact hI') ⟨_, _, _, rfl, hd2, ⟨?_, ?_⟩, Nat.le_trans stored_len (Nat.succ_le_succ hl'), upd1_shadow _ _ _ _⟩
      · intro p hp
        rw [take_mem_succ hilt]
        rcases stored_mem hp with h | h
        · exact ⟨.inl (ht'.1 p h).1, (ht'.1 p h).2⟩
        · exact ⟨.inr h, h ▸ (by assumption)⟩
      · intro x hx
        rcases (take_mem_succ hilt x).mp hx with h | h
        · exact (ht'.2 x h).imp id fun h => stored_keys (.inl h)
        · exact .inr (stored_keys (.inr h))
    · refine TurnPost.next (news := [(d, _)]) (by assumption) (by assumption) (.head _) (fun p hp => .tail _ hp) (fun p hp => by rw [List.mem_singleton.mp hp]; exact hI') ⟨_, _, _, rfl, hd', ⟨?_, ?_⟩, Nat.le_trans hl' (Nat.le_succ _), upd1_shadow _ _ _ _⟩
      · intro p hp
        rw [take_mem_succ hilt]
        exact ⟨.inl (ht'.1 p hp).1, (ht'.1 p hp).2⟩
      · intro x hx
        rcases (take_mem_succ hilt x).mp hx with h | h
        · exact ht'.2 x h
        · exact .inl (h.trans (by assumption))
end Mine
end
section
set_option linter.all false
open PySem PySem.W PyProof.Rows PySem.Calls PyProof.V PySem.Spec
set_option maxRecDepth 100000
namespace Mine
theorem wordsNuOps : True := by
  w_top off
  k_with_none
  k_with "call ref" => (k_here; (with_reducible show wpAny _ _ (call (Value.ref 164) [Value.ref _, Value.int _ _]) _ _ _); k_dflt (refine' next_K ?F ?N ?X ?T ?U ?dp ?un ?d ?k0 ?k1 ?w ?w2 ?c ?i ?ns ?ca ?_; (case F => k_asm); (case N => k_asm); (case X => k_asm); (case T => k_asm); (case U => k_updF); (case dp => omega); (case un => omega); (case d => k_asm); (case c => is_list); (case i => assumption); (case k0 => omega); (case k1 => omega); (case w => omega); (case w2 => omega); (case ns => assumption); (case ca => assumption)); intro h'ω o'ω r'ω tr'ω tk'ω tq'ω F'ω N'ω d'ω r0'ω r1'ω kp'ω; (try dsimp only at N'ω))
  k_with "call builtin:len" => (k_here; (with_reducible show wpAny _ _ (call (Value.builtin "len") [Value.ref _]) _ _ _); k_dflt (refine' len_G ?l ?z ?_; (case l => is_list); (case z => omega)))
  k_with "subscriptTail" => (k_here; (with_reducible show wpAny _ _ (subscriptTail _ _ (Value.ref _) (Value.int _ _)) _ _ _); k_dflt (refine' item_G ?l ?k0 ?k1 ?z ?_ ?hs; (case l => is_list); (case k0 => first | assumption | omega); (case k1 => first | assumption | omega); (case z => first | assumption | omega); (case hs => with_unfolding_all rfl)); intro v'ω hv'ω)
  k_with "eval ListComp" => (k_here; refine stop_intro ?_)
  k_with "eval Name" => (k_dflt (refine' name_loc ?n ?v ?k ?l ?d ?_; (case n => assumption); (case v => assumption); (case k => exact rfl); (case l => exact rfl); (case d => decide)))
  k_with "subscriptTail" => (k_here; (with_reducible show wpAny _ _ (subscriptTail _ _ (Value.ref _) (Value.int _ _)) _ _ _); k_dflt (refine' item_bools ?l ?k0 ?k1 ?z ?_ ?hs; (case l => is_list); (case k0 => first | assumption | omega); (case k1 => first | assumption | omega); (case z => first | assumption | omega); (case hs => with_unfolding_all rfl)))
  k_with "compareOp In" => (k_here; (with_reducible show wpAny _ _ (compareOp CmpOp.In (Value.bool _) (Value.ref _)) _ _ _); k_dflt (refine' in_bools ?l ?_; (case l => is_list)))
  k_with "compareOp NotIn" => (k_here; (with_reducible show wpAny _ _ (compareOp CmpOp.NotIn (Value.bool _) (Value.ref _)) _ _ _); k_dflt (refine' notin_bools ?l ?_; (case l => is_list)))
  k_with "exec For" => (k_here; refine stop_intro ?_)
  k_with "exec For Name Call cons nil" => (k_here; refine stop_intro ?_)
  k_with "exec For Name Name cons nil" => (k_here; refine stop_intro ?_)
  k_with "exec For Tuple Name cons nil" => (k_here; refine stop_intro ?_)
  k_with "exec For Name Attribute cons nil" => (k_here; refine stop_intro ?_)
  k_with "setItem ref int" => (k_here; k_dflt (refine' kda_set (knd := PySem.intKind _ _) ?F ?N ?U ?d (intKind_is _ _ _ _) ?z ?_; (case F => k_asm); (case N => k_asm); (case U => k_updF); (case d => k_asm); (case z => (rw [sizeLine_eq]; omega))); intro h'ω o'ω F'ω N'ω hd'ω; (try dsimp only at N'ω))
  k_with "call builtin:len" => (k_here; (with_reducible show wpAny _ _ (call (Value.builtin "len") [Value.ref _]) _ _ _); k_dflt (refine' len_A ?l ?z ?_; (case l => is_list); (case z => (simp only [Array.size_push, List.size_toArray]; omega))))
  k_with "compareOp In" => (k_here; (with_reducible show wpAny _ _ (compareOp CmpOp.In (Value.int _ _) (Value.ref _)) _ _ _); k_dflt (refine' kda_in (knd := PySem.intKind _ _) ?N ?mem ?hd ?lo (intKind_is _ _ _ _) _ rfl ?_; (case N => k_asm); (case mem => k_mem); (case hd => k_asm); (case lo => assumption)))
  k_with "newTuple" => (k_here; k_dflt (refine' newTuple_S ?F ?N ?_ ?z; (case F => k_asm); (case N => k_asm); (case z => kmk_size)); intro D'ω h'ω St'ω F'ω N'ω l1ω; (try k_lt l1ω))
  trivial
theorem paired_neg {xs : List Int} : ∀ {vs ys : List Value}, IntsAre vs xs → Paired (fun (v y : Value) => ∃ n t t', v = .int n t ∧ y = .int (-n) t') vs ys → IntsAre ys (xs.map (- ·)) := by
  intro vs ys hi
  induction hi generalizing ys with
  | nil => intro h; cases h; exact .nil
  | cons n t _ ih =>
    intro h
    cases h with
    | cons h1 h2 =>
      obtain ⟨n', t1, t2, e1, rfl⟩ := h1
      cases e1
      exact .cons _ _ (ih h2)
theorem any_not {inp : Nat → Bool} {ns : List Node} {xs : List Int} (hx : ∀ x ∈ xs, Lit ns x) : (!(xs.map (- ·)).all (lit inp ns)) = xs.any (lit inp ns) := by
  induction xs with
  | nil => rfl
  | cons x xs ih =>
    have h1 := ih fun y hy => hx y (.tail _ hy)
    rw [List.map_cons, List.all_cons, List.any_cons, lit_neg (hx x (.head _)).1, ← h1]
    cases lit inp ns x <;> simp
structure Fresh (hs : Heap) (a : CA) : Prop where
  ck : hs.get? a.ck = none
  cp : hs.get? a.cp = none
  cn : hs.get? a.cn = none
noncomputable abbrev CA.mods (a : CA) : List Addr := [a.ck, a.cp, a.cn]
theorem Fresh.mods {hs : Heap} {a : CA} (f : Fresh hs a) : ∀ b ∈ a.mods, hs.get? b = none := List.forall_mem_cons.mpr ⟨f.ck, List.forall_mem_cons.mpr ⟨f.cp, List.forall_mem_cons.mpr ⟨f.cn, List.forall_mem_nil _⟩⟩⟩
theorem IsCirc.there {w : World} {h : Heap} {a : CA} {ns : List Node} {kn : Kn} (C : IsCirc w h a ns kn) : ∀ b ∈ a.mods, ∃ o, h.get? b = some o := by
  obtain ⟨_, _, x1, _⟩ := C.kinds
  obtain ⟨_, _, x2, _⟩ := C.parts
  obtain ⟨_, x3, _⟩ := dict_obj C.known
  exact List.forall_mem_cons.mpr ⟨⟨_, x1⟩, List.forall_mem_cons.mpr ⟨⟨_, x2⟩, List.forall_mem_cons.mpr ⟨⟨_, x3⟩, List.forall_mem_nil _⟩⟩⟩
theorem over (g h' : Heap) : ∀ (M : List Addr), (∀ b ∈ M, ∃ o, g.get? b = some o) → (∀ b ∈ M, ∃ o, h'.get? b = some o) → ∃ g' : Heap, g'.objs.size = g.objs.size ∧ (∀ b, b ∉ M → g'.get? b = g.get? b) ∧ ∀ b ∈ M, g'.get? b = h'.get? b
  | [], _, _ => ⟨g, rfl, fun _ _ => rfl, fun _ h => nomatch h⟩
  | a :: M, h1, h2 => by
    obtain ⟨g1, z, k, e⟩ := over g h' M (fun b hb => h1 b (.tail _ hb)) (fun b hb => h2 b (.tail _ hb))
    obtain ⟨o, ho⟩ := h2 a (.head _)
    have ⟨o1, ho1⟩ : ∃ o1, g1.get? a = some o1 := by
      by_cases ha : a ∈ M
      · exact ⟨o, (e a ha).trans ho⟩
      · obtain ⟨o1, x⟩ := h1 a (.head _); exact ⟨o1, (k a ha).trans x⟩
    have at_ : (g1.update a fun _ => o).get? a = some o := Heap.get?_update_self (fun _ => o) ho1 (Heap.get?_some_iff.mp ho).2
    refine ⟨g1.update a fun _ => o, (Heap.size_update ..).trans z, fun b hb => ?_, fun b hb => ?_⟩
    · rw [Heap.get?_update_other _ _ (fun q => hb (List.mem_cons.mpr (.inl q.symm)))]
      exact k b fun hm => hb (.tail _ hm)
    · by_cases hab : b = a
      · rw [hab, at_, ho]
      · rw [Heap.get?_update_other _ _ (Ne.symm hab)]
        exact e b ((List.mem_cons.mp hb).resolve_left hab)
theorem rebO {M : List Addr} {g h h' : Heap} {L : Addr} {m : Str → Option Value} {news : List (Addr × Obj)} (F : Fr g L h m) (N : News g L h news) (K : Keep M h h') (hM : ∀ a ∈ M, ∃ o, g.get? a = some o) (hM' : ∀ a ∈ M, ∃ o, h'.get? a = some o) :
    ∃ g', Fr g' L h' m ∧ News g' L h' news ∧ g'.objs.size = g.objs.size ∧ (∀ b, b ∉ M → g'.get? b = g.get? b) ∧ ∀ b ∈ M, g'.get? b = h'.get? b := by
  obtain ⟨g', z, k, e⟩ := over g h' M hM hM'
  have off : ∀ b, g.get? b = none → b ∉ M := fun b e hm => by obtain ⟨o, e'⟩ := hM b hm; rw [e] at e'; cases e'
  have Lg : L ∉ M := fun hm => by obtain ⟨o, e'⟩ := hM L hm; exact absurd (Heap.lt_size e') (Nat.not_lt.mpr F.above)
  refine ⟨g', ⟨F.ns.at' fun o e => K L o Lg e, fun b ob eb => ?_, by rw [z]; exact F.above⟩, fun p hp => ?_, z, k, e⟩
  · by_cases hb : b ∈ M
    · rw [← e b hb]; exact eb
    · exact K b ob hb (F.keep b ob ((k b hb).symm.trans eb))
  · have q := N p hp
    exact ⟨K _ _ (off _ q.2.2) q.1, q.2.1, (k _ (off _ q.2.2)).trans q.2.2⟩
theorem reb {w : World} {mean : ExcName → Option Value} {mg mb : Str → Option Value} {hs g h h' : Heap} {L : Addr} {m : Str → Option Value} {news : List (Addr × Obj)} {a : CA} (C : Ctx w mean mg mb hs) (fr : Fresh hs a) (St : hs.StaysIn g) (th : ∀ b ∈ a.mods, ∃ o, g.get? b = some o) (th' : ∀ b ∈ a.mods, ∃ o, h'.get? b = some o)
    (F : Fr g L h m) (N : News g L h news) (K : Keep a.mods h h') : ∃ g', Fr g' L h' m ∧ News g' L h' news ∧ (Mine.kx.heap_1 w.params).In g' ∧ Top Mine.vw [] mean mg mb g' ∧ hs.StaysIn g' ∧ Keep a.mods g g' ∧ g'.objs.size = g.objs.size ∧ ∀ b ∈ a.mods, ∃ o, g'.get? b = some o := by
  obtain ⟨g', F', N', z, k, e⟩ := rebO F N K th th'
  have St' : hs.StaysIn g' := fun b o eb => (k b fun hm => by rw [fr.mods b hm] at eb; cases eb).trans (St b o eb)
  exact ⟨_, F', N', Frag.In.keeps C.X St', C.T.keeps St', St', fun b o nb eb => (k b nb).trans eb, z, fun b hb => by rw [e b hb]; exact th' b hb⟩
/-- what an operation of the circuit answers -/
noncomputable def OpPost (w : World) (s : Shared) (a : CA) (ns : List Node) (k : Nat) (f : (Nat → Bool) → Bool) (Q : Value → Shared → Prop) : Prop :=
  ∀ h' r t' tk ns' kn', Grew k ns ns' kn' → Lit ns' r → (∀ inp, lit inp ns' r = f inp) → IsCirc w h' a ns' kn' → Keep a.mods s.heap h' → s.heap.objs.size ≤ h'.objs.size → Q (.int r t') { s with heap := h', toks := tk }
section
variable {w : World} {mean : ExcName → Option Value} {mg mb : Str → Option Value} {hs : Heap} {dp un : Nat} {fr : Option (List Env)} {gd : Option (List Code)} {s : Shared} {Q E : Value → Shared → Prop}
theorem all_sem (C : Ctx w mean mg mb hs) (S : hs.StaysIn s.heap) (a : CA) (ns : List Node) (kn : Kn) (CC : IsCirc w s.heap a ns kn) (G : Good ns kn) (hf : Fresh hs a) (xs : List Int) (gs : Value) (hgs : IntSeq s.heap gs xs) (hx : ∀ x ∈ xs, Lit ns x)
   (hdp : dp ≤ 700) (hun : un ≤ 8800) (hlen : ns.length ≤ 900) (hxl : xs.length ≤ 8) (hQ : OpPost w s a ns 1 (fun inp => xs.all (lit inp ns)) Q) :
   wpAny (model PySem.Challenge.rw_nu0266_01.row.prog w) (At dp un fr gd) (call (.ref 77) [.ref a.ci, gs]) Q E s :=
  all_t C S a ns kn CC G hf.ck hf.cp hf.cn xs gs hgs hdp hun hlen hxl fun h' r t' tk ns' kn' R CC' K sz =>
    let ⟨g1, l1, v1⟩ := all_plain G hx R
    hQ h' r t' tk ns' kn' g1 l1 v1 CC' K sz
set_option maxHeartbeats 4000000 in
theorem both_t (C : Ctx w mean mg mb hs) (S : hs.StaysIn s.heap) (a : CA) (ns : List Node) (kn : Kn) (CC : IsCirc w s.heap a ns kn) (G : Good ns kn) (hf : Fresh hs a) (x y : Int) (tx ty : Tok) (hx : Lit ns x) (hy : Lit ns y)
   (hdp : dp ≤ 690) (hun : un ≤ 8700) (hlen : ns.length ≤ 890) (hQ : OpPost w s a ns 1 (fun inp => lit inp ns x && lit inp ns y) Q) :
   wpAny (model PySem.Challenge.rw_nu0266_01.row.prog w) (At dp un fr gd) (call (.ref 89) [.ref a.ci, .int x tx, .int y ty]) Q E s := by
  have X0 := C.X
  revert X0
  k_fill
  intro X0
  refine' enter (binds := [(Str.ofString "self", .ref a.ci), (Str.ofString "a", .int x tx), (Str.ofString "b", .int y ty)]) [] C S ?ho ?hcd ?hr ?hm ?hn ?hbind ?hcell ?hloc ?_ ?hco ?hg ?hk
  case ho => k_is
  case hcd => k_is
  case hr => exact Nat.lt_of_le_of_lt hdp (by decide)
  case hm => intro p hp; cases hp
  case hn => intro p hp; cases hp
  case hbind => exact BindsTo.of_eq rfl
  case hcell => decide
  case hloc => exact locs rfl
  case hco => exact rfl
  case hg => exact rfl
  case hk => exact rfl
  intro g L' h₁ fr' tk0 K0' F N X T St Of Sz
  have K0 : s.heap.StaysIn g := fun b o e => K0' b o (by simp) e
  clear K0'
  have CG := CC.stay K0
  obtain ⟨t1, t2, t3, n, I⟩ := CG.inst
  k_steps
  rename Fr _ _ _ _ => F9
  rename News _ _ _ _ => N9
  have S9 : hs.StaysIn _ := fun b o e => F9.keep b o (St b o e)
  have C9 := CG.stay F9.keep
  refine all_sem C S9 a ns kn C9 G hf [x, y] _ ⟨_, _, rfl, .cons _ _ (.cons _ _ .nil), .inr (News.isTup N9 (.head _))⟩ (List.forall_mem_cons.mpr ⟨hx, List.forall_mem_cons.mpr ⟨hy, List.forall_mem_nil _⟩⟩) (Nat.le_trans (Nat.succ_le_succ hdp) (by decide)) (Nat.le_trans (Nat.add_le_add_right hun 3) (by decide)) (by omega) (Nat.le_of_ble_eq_true rfl) ?_
  intro h8 r8 t8 tk8 ns8 kn8 G8 L8 V8 C8 K8 Z8
  have K80 : Keep a.mods s.heap h8 := fun p o np e => K8 p o np (F9.keep p o (K0 p o e))
  have Z80 := Nat.le_trans (size_of_fr Sz F9) Z8
  k_steps
  try dsimp only
  exact hQ _ _ _ _ _ _ G8 L8 (fun inp => by rw [V8 inp]; simp only [List.all_cons, List.all_nil, lit_neg hx.1, lit_neg hy.1, Bool.and_true, Bool.not_and, Bool.not_not]) C8 K80 Z80
set_option maxHeartbeats 4000000 in
theorem either_t (C : Ctx w mean mg mb hs) (S : hs.StaysIn s.heap) (a : CA) (ns : List Node) (kn : Kn) (CC : IsCirc w s.heap a ns kn) (G : Good ns kn) (hf : Fresh hs a) (x y : Int) (tx ty : Tok) (hx : Lit ns x) (hy : Lit ns y)
   (hdp : dp ≤ 690) (hun : un ≤ 8700) (hlen : ns.length ≤ 890) (hQ : OpPost w s a ns 1 (fun inp => lit inp ns x || lit inp ns y) Q) :
   wpAny (model PySem.Challenge.rw_nu0266_01.row.prog w) (At dp un fr gd) (call (.ref 96) [.ref a.ci, .int x tx, .int y ty]) Q E s := by
  have X0 := C.X
  revert X0
  k_fill
  intro X0
  refine' enter (binds := [(Str.ofString "self", .ref a.ci), (Str.ofString "a", .int x tx), (Str.ofString "b", .int y ty)]) [] C S ?ho ?hcd ?hr ?hm ?hn ?hbind ?hcell ?hloc ?_ ?hco ?hg ?hk
  case ho => k_is
  case hcd => k_is
  case hr => exact Nat.lt_of_le_of_lt hdp (by decide)
  case hm => intro p hp; cases hp
  case hn => intro p hp; cases hp
  case hbind => exact BindsTo.of_eq rfl
  case hcell => decide
  case hloc => exact locs rfl
  case hco => exact rfl
  case hg => exact rfl
  case hk => exact rfl
  intro g L' h₁ fr' tk0 K0' F N X T St Of Sz
  have K0 : s.heap.StaysIn g := fun b o e => K0' b o (by simp) e
  clear K0'
  have CG := CC.stay K0
  obtain ⟨t1, t2, t3, n, I⟩ := CG.inst
  k_steps
  rename Fr _ _ _ _ => F9
  rename News _ _ _ _ => N9
  have S9 : hs.StaysIn _ := fun b o e => F9.keep b o (St b o e)
  have C9 := CG.stay F9.keep
  refine all_sem C S9 a ns kn C9 G hf [-x, -y] _ ⟨_, _, rfl, .cons _ _ (.cons _ _ .nil), .inr (News.isTup N9 (.head _))⟩ (List.forall_mem_cons.mpr ⟨hx.neg, List.forall_mem_cons.mpr ⟨hy.neg, List.forall_mem_nil _⟩⟩) (Nat.le_trans (Nat.succ_le_succ hdp) (by decide)) (Nat.le_trans (Nat.add_le_add_right hun 3) (by decide)) (by omega) (Nat.le_of_ble_eq_true rfl) ?_
  intro h8 r8 t8 tk8 ns8 kn8 G8 L8 V8 C8 K8 Z8
  have K80 : Keep a.mods s.heap h8 := fun p o np e => K8 p o np (F9.keep p o (K0 p o e))
  have Z80 := Nat.le_trans (size_of_fr Sz F9) Z8
  k_steps
  try dsimp only
  exact hQ _ _ _ _ _ _ G8 L8.neg (fun inp => by rw [lit_neg L8.1, V8 inp]; simp only [List.all_cons, List.all_nil, lit_neg hx.1, lit_neg hy.1, Bool.and_true, Bool.not_and, Bool.not_not]) C8 K80 Z80
set_option maxHeartbeats 4000000 in
theorem implies_t (C : Ctx w mean mg mb hs) (S : hs.StaysIn s.heap) (a : CA) (ns : List Node) (kn : Kn) (CC : IsCirc w s.heap a ns kn) (G : Good ns kn) (hf : Fresh hs a) (x y : Int) (tx ty : Tok) (hx : Lit ns x) (hy : Lit ns y)
   (hdp : dp ≤ 690) (hun : un ≤ 8700) (hlen : ns.length ≤ 890) (hQ : OpPost w s a ns 1 (fun inp => !lit inp ns x || lit inp ns y) Q) :
   wpAny (model PySem.Challenge.rw_nu0266_01.row.prog w) (At dp un fr gd) (call (.ref 103) [.ref a.ci, .int x tx, .int y ty]) Q E s := by
  have X0 := C.X
  revert X0
  k_fill
  intro X0
  refine' enter (binds := [(Str.ofString "self", .ref a.ci), (Str.ofString "a", .int x tx), (Str.ofString "b", .int y ty)]) [] C S ?ho ?hcd ?hr ?hm ?hn ?hbind ?hcell ?hloc ?_ ?hco ?hg ?hk
  case ho => k_is
  case hcd => k_is
  case hr => exact Nat.lt_of_le_of_lt hdp (by decide)
  case hm => intro p hp; cases hp
  case hn => intro p hp; cases hp
  case hbind => exact BindsTo.of_eq rfl
  case hcell => decide
  case hloc => exact locs rfl
  case hco => exact rfl
  case hg => exact rfl
  case hk => exact rfl
  intro g L' h₁ fr' tk0 K0' F N X T St Of Sz
  have K0 : s.heap.StaysIn g := fun b o e => K0' b o (by simp) e
  clear K0'
  have CG := CC.stay K0
  obtain ⟨t1, t2, t3, n, I⟩ := CG.inst
  k_steps
  rename Fr _ _ _ _ => F9
  rename News _ _ _ _ => N9
  have S9 : hs.StaysIn _ := fun b o e => F9.keep b o (St b o e)
  have C9 := CG.stay F9.keep
  refine all_sem C S9 a ns kn C9 G hf [x, -y] _ ⟨_, _, rfl, .cons _ _ (.cons _ _ .nil), .inr (News.isTup N9 (.head _))⟩ (List.forall_mem_cons.mpr ⟨hx, List.forall_mem_cons.mpr ⟨hy.neg, List.forall_mem_nil _⟩⟩) (Nat.le_trans (Nat.succ_le_succ hdp) (by decide)) (Nat.le_trans (Nat.add_le_add_right hun 3) (by decide)) (by omega) (Nat.le_of_ble_eq_true rfl) ?_
  intro h8 r8 t8 tk8 ns8 kn8 G8 L8 V8 C8 K8 Z8
  have K80 : Keep a.mods s.heap h8 := fun p o np e => K8 p o np (F9.keep p o (K0 p o e))
  have Z80 := Nat.le_trans (size_of_fr Sz F9) Z8
  k_steps
  try dsimp only
  exact hQ _ _ _ _ _ _ G8 L8.neg (fun inp => by rw [lit_neg L8.1, V8 inp]; simp only [List.all_cons, List.all_nil, lit_neg hx.1, lit_neg hy.1, Bool.and_true, Bool.not_and, Bool.not_not]) C8 K80 Z80
set_option maxHeartbeats 4000000 in
theorem iff_t (C : Ctx w mean mg mb hs) (S : hs.StaysIn s.heap) (a : CA) (ns : List Node) (kn : Kn) (CC : IsCirc w s.heap a ns kn) (G : Good ns kn) (hf : Fresh hs a) (x y : Int) (tx ty : Tok) (hx : Lit ns x) (hy : Lit ns y)
   (hdp : dp ≤ 680) (hun : un ≤ 8600) (hlen : ns.length ≤ 880) (hQ : OpPost w s a ns 3 (fun inp => lit inp ns x == lit inp ns y) Q) :
   wpAny (model PySem.Challenge.rw_nu0266_01.row.prog w) (At dp un fr gd) (call (.ref 110) [.ref a.ci, .int x tx, .int y ty]) Q E s := by
  have X0 := C.X
  revert X0
  k_fill
  intro X0
  refine' enter (binds := [(Str.ofString "self", .ref a.ci), (Str.ofString "a", .int x tx), (Str.ofString "b", .int y ty)]) [] C S ?ho ?hcd ?hr ?hm ?hn ?hbind ?hcell ?hloc ?_ ?hco ?hg ?hk
  case ho => k_is
  case hcd => k_is
  case hr => exact Nat.lt_of_le_of_lt hdp (by decide)
  case hm => intro p hp; cases hp
  case hn => intro p hp; cases hp
  case hbind => exact BindsTo.of_eq rfl
  case hcell => decide
  case hloc => exact locs rfl
  case hco => exact rfl
  case hg => exact rfl
  case hk => exact rfl
  intro g L' h₁ fr' tk0 K0' F N X T St Of Sz
  have K0 : s.heap.StaysIn g := fun b o e => K0' b o (by simp) e
  clear K0'
  have CG := CC.stay K0
  obtain ⟨t1, t2, t3, n, I⟩ := CG.inst
  k_steps
  rename Fr _ _ _ _ => F9
  rename News _ _ _ _ => N9
  have S9 : hs.StaysIn _ := fun b o e => F9.keep b o (St b o e)
  have C9 := CG.stay F9.keep
  refine implies_t C S9 a ns kn C9 G hf x y _ _ hx hy (Nat.le_trans (Nat.succ_le_succ hdp) (by decide)) (Nat.le_trans (Nat.add_le_add_right hun 3) (by decide)) (by omega) ?_
  intro h8 r8 t8 tk8 ns8 kn8 G8 L8 V8 C8 K8 Z8
  have K80 : Keep a.mods s.heap h8 := fun p o np e => K8 p o np (F9.keep p o (K0 p o e))
  have Z80 := Nat.le_trans (size_of_fr Sz F9) Z8
  obtain ⟨g2, F7, N7, X7, T7, St7, K7, Sz7, th7⟩ := reb C hf St CG.there C8.there F9 N9 K8
  have l8 := G8.len
  obtain ⟨u1, u2, u3, n8, I8⟩ := C8.inst
  clear I F9 N9 X T
  k_steps
  rename Fr _ _ _ _ => F6
  rename News _ _ _ _ => N6
  have S6 : hs.StaysIn _ := fun b o e => F6.keep b o (St7 b o e)
  refine implies_t C S6 a ns8 kn8 C8 G8.good hf y x _ _ (G8.lit hy) (G8.lit hx) (Nat.le_trans (Nat.succ_le_succ hdp) (by decide)) (Nat.le_trans (Nat.add_le_add_right hun 3) (by decide)) (by omega) ?_
  intro h5 r5 t5 tk5 ns5 kn5 G5 L5 V5 C5 K5 Z5
  have K50 := K80.trans K5
  have Z50 := Nat.le_trans Z80 Z5
  obtain ⟨g4, F4, N4, X4, T4, St4, K4, Sz4, th4⟩ := reb C hf St7 th7 C5.there F6 N6 K5
  have l5 := G5.len
  obtain ⟨v1, v2, v3, n5, I5⟩ := C5.inst
  clear I8 F6 N6 X7 T7
  k_steps
  rename Fr _ _ _ _ => F3
  rename News _ _ _ _ => N3
  rename Heap.StaysIn h5 _ ∧ _ => st5
  have S3 : hs.StaysIn _ := fun b o e => F3.keep b o (St4 b o e)
  refine all_sem C S3 a ns5 kn5 (C5.stay st5.1) G5.good hf [r8, r5] _ ⟨_, _, rfl, .cons _ _ (.cons _ _ .nil), .inr (News.isTup N3 (.head _))⟩ (List.forall_mem_cons.mpr ⟨G5.lit L8, List.forall_mem_cons.mpr ⟨L5, List.forall_mem_nil _⟩⟩) (Nat.le_trans (Nat.succ_le_succ hdp) (by decide)) (Nat.le_trans (Nat.add_le_add_right hun 3) (by decide)) (by omega) (Nat.le_of_ble_eq_true rfl) ?_
  intro h2 r2 t2' tk2 ns2 kn2 G2 L2 V2 C2 K2 Z2
  k_steps
  try dsimp only
  refine hQ _ _ _ _ _ _ (((G8.trans G5).trans G2).mono (by decide)) L2 (fun inp => ?_) C2 ((K50.trans (Keep.of_stay st5.1)).trans K2) (Nat.le_trans Z50 (Nat.le_trans st5.2 Z2))
  rw [V2 inp]
  simp only [List.all_cons, List.all_nil, Bool.and_true]
  rw [G5.same L8, V8 inp, V5 inp]
  dsimp only
  rw [G8.same hx, G8.same hy]; cases lit inp ns x <;> cases lit inp ns y <;> rfl
set_option maxHeartbeats 4000000 in
theorem choose_t (C : Ctx w mean mg mb hs) (S : hs.StaysIn s.heap) (a : CA) (ns : List Node) (kn : Kn) (CC : IsCirc w s.heap a ns kn) (G : Good ns kn) (hf : Fresh hs a) (z x y : Int) (tz tx ty : Tok) (hz : Lit ns z) (hx : Lit ns x) (hy : Lit ns y)
   (hdp : dp ≤ 680) (hun : un ≤ 8600) (hlen : ns.length ≤ 880) (hQ : OpPost w s a ns 3 (fun inp => if lit inp ns z then lit inp ns x else lit inp ns y) Q) :
   wpAny (model PySem.Challenge.rw_nu0266_01.row.prog w) (At dp un fr gd) (call (.ref 124) [.ref a.ci, .int z tz, .int x tx, .int y ty]) Q E s := by
  have X0 := C.X
  revert X0
  k_fill
  intro X0
  refine' enter (binds := [(Str.ofString "self", .ref a.ci), (Str.ofString "c", .int z tz), (Str.ofString "a", .int x tx), (Str.ofString "b", .int y ty)]) [] C S ?ho ?hcd ?hr ?hm ?hn ?hbind ?hcell ?hloc ?_ ?hco ?hg ?hk
  case ho => k_is
  case hcd => k_is
  case hr => exact Nat.lt_of_le_of_lt hdp (by decide)
  case hm => intro p hp; cases hp
  case hn => intro p hp; cases hp
  case hbind => exact BindsTo.of_eq rfl
  case hcell => decide
  case hloc => exact locs rfl
  case hco => exact rfl
  case hg => exact rfl
  case hk => exact rfl
  intro g L' h₁ fr' tk0 K0' F N X T St Of Sz
  have K0 : s.heap.StaysIn g := fun b o e => K0' b o (by simp) e
  clear K0'
  have CG := CC.stay K0
  obtain ⟨t1, t2, t3, n, I⟩ := CG.inst
  k_steps
  rename Fr _ _ _ _ => F9
  rename News _ _ _ _ => N9
  have S9 : hs.StaysIn _ := fun b o e => F9.keep b o (St b o e)
  have C9 := CG.stay F9.keep
  refine implies_t C S9 a ns kn C9 G hf z x _ _ hz hx (Nat.le_trans (Nat.succ_le_succ hdp) (by decide)) (Nat.le_trans (Nat.add_le_add_right hun 3) (by decide)) (by omega) ?_
  intro h8 r8 t8 tk8 ns8 kn8 G8 L8 V8 C8 K8 Z8
  have K80 : Keep a.mods s.heap h8 := fun p o np e => K8 p o np (F9.keep p o (K0 p o e))
  have Z80 := Nat.le_trans (size_of_fr Sz F9) Z8
  obtain ⟨g2, F7, N7, X7, T7, St7, K7, Sz7, th7⟩ := reb C hf St CG.there C8.there F9 N9 K8
  have l8 := G8.len
  obtain ⟨u1, u2, u3, n8, I8⟩ := C8.inst
  clear I F9 N9 X T
  k_steps
  rename Fr _ _ _ _ => F6
  rename News _ _ _ _ => N6
  have S6 : hs.StaysIn _ := fun b o e => F6.keep b o (St7 b o e)
  refine implies_t C S6 a ns8 kn8 C8 G8.good hf (-z) y _ _ (G8.lit hz).neg (G8.lit hy) (Nat.le_trans (Nat.succ_le_succ hdp) (by decide)) (Nat.le_trans (Nat.add_le_add_right hun 3) (by decide)) (by omega) ?_
  intro h5 r5 t5 tk5 ns5 kn5 G5 L5 V5 C5 K5 Z5
  have K50 := K80.trans K5
  have Z50 := Nat.le_trans Z80 Z5
  obtain ⟨g4, F4, N4, X4, T4, St4, K4, Sz4, th4⟩ := reb C hf St7 th7 C5.there F6 N6 K5
  have l5 := G5.len
  obtain ⟨v1, v2, v3, n5, I5⟩ := C5.inst
  clear I8 F6 N6 X7 T7
  k_steps
  rename Fr _ _ _ _ => F3
  rename News _ _ _ _ => N3
  rename Heap.StaysIn h5 _ ∧ _ => st5
  have S3 : hs.StaysIn _ := fun b o e => F3.keep b o (St4 b o e)
  refine all_sem C S3 a ns5 kn5 (C5.stay st5.1) G5.good hf [r8, r5] _ ⟨_, _, rfl, .cons _ _ (.cons _ _ .nil), .inr (News.isTup N3 (.head _))⟩ (List.forall_mem_cons.mpr ⟨G5.lit L8, List.forall_mem_cons.mpr ⟨L5, List.forall_mem_nil _⟩⟩) (Nat.le_trans (Nat.succ_le_succ hdp) (by decide)) (Nat.le_trans (Nat.add_le_add_right hun 3) (by decide)) (by omega) (Nat.le_of_ble_eq_true rfl) ?_
  intro h2 r2 t2' tk2 ns2 kn2 G2 L2 V2 C2 K2 Z2
  k_steps
  try dsimp only
  refine hQ _ _ _ _ _ _ (((G8.trans G5).trans G2).mono (by decide)) L2 (fun inp => ?_) C2 ((K50.trans (Keep.of_stay st5.1)).trans K2) (Nat.le_trans Z50 (Nat.le_trans st5.2 Z2))
  rw [V2 inp]
  simp only [List.all_cons, List.all_nil, Bool.and_true]
  rw [G5.same L8, V8 inp, V5 inp]
  dsimp only
  rw [lit_neg hz.1, G8.same hz, G8.same hy]; cases lit inp ns z <;> cases lit inp ns x <;> cases lit inp ns y <;> rfl
set_option maxHeartbeats 4000000 in
theorem unlike_t (C : Ctx w mean mg mb hs) (S : hs.StaysIn s.heap) (a : CA) (ns : List Node) (kn : Kn) (CC : IsCirc w s.heap a ns kn) (G : Good ns kn) (hf : Fresh hs a) (x y : Int) (tx ty : Tok) (hx : Lit ns x) (hy : Lit ns y)
   (hdp : dp ≤ 670) (hun : un ≤ 8500) (hlen : ns.length ≤ 880) (hQ : OpPost w s a ns 3 (fun inp => lit inp ns x != lit inp ns y) Q) :
   wpAny (model PySem.Challenge.rw_nu0266_01.row.prog w) (At dp un fr gd) (call (.ref 117) [.ref a.ci, .int x tx, .int y ty]) Q E s := by
  have X0 := C.X
  revert X0
  k_fill
  intro X0
  refine' enter (binds := [(Str.ofString "self", .ref a.ci), (Str.ofString "a", .int x tx), (Str.ofString "b", .int y ty)]) [] C S ?ho ?hcd ?hr ?hm ?hn ?hbind ?hcell ?hloc ?_ ?hco ?hg ?hk
  case ho => k_is
  case hcd => k_is
  case hr => exact Nat.lt_of_le_of_lt hdp (by decide)
  case hm => intro p hp; cases hp
  case hn => intro p hp; cases hp
  case hbind => exact BindsTo.of_eq rfl
  case hcell => decide
  case hloc => exact locs rfl
  case hco => exact rfl
  case hg => exact rfl
  case hk => exact rfl
  intro g L' h₁ fr' tk0 K0' F N X T St Of Sz
  have K0 : s.heap.StaysIn g := fun b o e => K0' b o (by simp) e
  clear K0'
  have CG := CC.stay K0
  obtain ⟨t1, t2, t3, n, I⟩ := CG.inst
  k_steps
  rename Fr _ _ _ _ => F9
  rename News _ _ _ _ => N9
  have S9 : hs.StaysIn _ := fun b o e => F9.keep b o (St b o e)
  have C9 := CG.stay F9.keep
  refine iff_t C S9 a ns kn C9 G hf x y _ _ hx hy (Nat.le_trans (Nat.succ_le_succ hdp) (by decide)) (Nat.le_trans (Nat.add_le_add_right hun 3) (by decide)) (by omega) ?_
  intro h8 r8 t8 tk8 ns8 kn8 G8 L8 V8 C8 K8 Z8
  have K80 : Keep a.mods s.heap h8 := fun p o np e => K8 p o np (F9.keep p o (K0 p o e))
  have Z80 := Nat.le_trans (size_of_fr Sz F9) Z8
  k_steps
  try dsimp only
  exact hQ _ _ _ _ _ _ G8 L8.neg (fun inp => by rw [lit_neg L8.1, V8 inp]; rfl) C8 K80 Z80
set_option maxHeartbeats 4000000 in
theorem input_t (C : Ctx w mean mg mb hs) (S : hs.StaysIn s.heap) (a : CA) (ns : List Node) (kn : Kn) (CC : IsCirc w s.heap a ns kn) (hf : Fresh hs a)
   (hdp : dp ≤ 680) (hun : un ≤ 8600) (hlen : ns.length ≤ 880)
   (hQ : ∀ h' t' tk, IsCirc w h' a (ns ++ [.inp]) kn → Keep a.mods s.heap h' → s.heap.objs.size ≤ h'.objs.size → Q (.int (ns.length : Int) t') { s with heap := h', toks := tk }) :
   wpAny (model PySem.Challenge.rw_nu0266_01.row.prog w) (At dp un fr gd) (call (.ref 70) [.ref a.ci]) Q E s := by
  have X0 := C.X
  revert X0
  k_fill
  intro X0
  refine' enter (binds := [(Str.ofString "self", .ref a.ci)]) [] C S ?ho ?hcd ?hr ?hm ?hn ?hbind ?hcell ?hloc ?_ ?hco ?hg ?hk
  case ho => k_is
  case hcd => k_is
  case hr => exact Nat.lt_of_le_of_lt hdp (by decide)
  case hm => intro p hp; cases hp
  case hn => intro p hp; cases hp
  case hbind => exact BindsTo.of_eq rfl
  case hcell => decide
  case hloc => exact locs rfl
  case hco => exact rfl
  case hg => exact rfl
  case hk => exact rfl
  intro g L' h₁ fr' tk0 K0' F N X T St Of Sz
  have K0 : s.heap.StaysIn g := fun b o e => K0' b o (by simp) e
  clear K0'
  have CG := CC.stay K0
  obtain ⟨t1, t2, t3, n, I⟩ := CG.inst
  k_steps
  rename Fr _ _ _ _ => F9
  rename News _ _ _ _ => N9
  have S9 : hs.StaysIn _ := fun b o e => F9.keep b o (St b o e)
  have C9 := CG.stay F9.keep
  refine gate_spec C S9 a ns kn C9 hf.ck hf.cp (Str.ofString "input") _ _ .inp rfl (tkey_of (News.isTup N9 (.head _)) .nil) (Nat.le_trans (Nat.succ_le_succ hdp) (by decide)) (Nat.le_trans (Nat.add_le_add_right hun 3) (by decide)) (by omega) ?_
  intro h8 t8 tk8 K8 Z8 C8
  exact hQ _ _ _ C8 (fun p o np e => K8 p o (fun hm => np (by
    rcases List.mem_cons.mp hm with rfl | hm
    · exact .head _
    · exact .tail _ (List.mem_singleton.mp hm ▸ .head _))) (F9.keep p o (K0 p o e))) (Nat.le_trans (size_of_fr Sz F9) Z8)
set_option maxHeartbeats 4000000 in
theorem any_t (C : Ctx w mean mg mb hs) (S : hs.StaysIn s.heap) (a : CA) (ns : List Node) (kn : Kn) (CC : IsCirc w s.heap a ns kn) (G : Good ns kn) (hf : Fresh hs a) (xs : List Int) (gs : Value) (hgs : IntSeq s.heap gs xs) (hx : ∀ x ∈ xs, Lit ns x) (hxl : xs.length ≤ 8)
   (hdp : dp ≤ 690) (hun : un ≤ 8700) (hlen : ns.length ≤ 890) (hQ : OpPost w s a ns 1 (fun inp => xs.any (lit inp ns)) Q) :
   wpAny (model PySem.Challenge.rw_nu0266_01.row.prog w) (At dp un fr gd) (call (.ref 82) [.ref a.ci, gs]) Q E s := by
  have X0 := C.X
  revert X0
  k_fill
  intro X0
  refine' enter (binds := [(Str.ofString "self", .ref a.ci), (Str.ofString "gates", gs)]) [] C S ?ho ?hcd ?hr ?hm ?hn ?hbind ?hcell ?hloc ?_ ?hco ?hg ?hk
  case ho => k_is
  case hcd => k_is
  case hr => exact Nat.lt_of_le_of_lt hdp (by decide)
  case hm => intro p hp; cases hp
  case hn => intro p hp; cases hp
  case hbind => exact BindsTo.of_eq rfl
  case hcell => decide
  case hloc => exact locs rfl
  case hco => exact rfl
  case hg => exact rfl
  case hk => exact rfl
  intro g L' h₁ fr' tk0 K0' F N X T St Of Sz
  have K0 : s.heap.StaysIn g := fun b o e => K0' b o (by simp) e
  clear K0'
  have CG := CC.stay K0
  obtain ⟨t1, t2, t3, n, I⟩ := CG.inst
  obtain ⟨l, vs, rfl, hi, hlt⟩ := hgs
  have hlt' : g.IsList l vs.toArray ∨ IsTup g l vs.toArray := hlt.imp (stay_list K0) (stay_tup K0)
  have e1 := hi.length
  k_steps
  unfold Stop
  rename Fr _ _ _ _ => F9
  rename News _ _ _ _ => N9
  refine' comp_K F9 N9 (fun _ => true) (fun v y => ∃ n t t', v = .int n t ∧ y = .int (-n) t') ?c1 ?c2 ?c3 ?c4 ?c5 ?_ ?c6
  case c1 => with_unfolding_all rfl
  case c2 => decide
  case c3 => exact rfl
  case c4 => decide
  case c5 => exact rfl
  case c6 => intro _; with_unfolding_all rfl
  k_steps
  refine' ⟨_, _, _, by assumption, by assumption, iter_seq rfl F9.keep hlt', ?_, tests_none, ?_, ?_⟩
  · rw [List.size_toArray, e1, sizeLine_eq]; omega
  · intro C i v s₃ m₃ E' hC hP hp hn hm st
    obtain ⟨n, t, rfl, _⟩ := hi.at i v (by simpa using hP)
    k_steps
    exact ⟨⟨n, t, _, rfl, rfl⟩, _, _, rfl, fun _ _ e => e⟩
  · intro D h' tk ys kk vs' F' N' hD hlen' hv' hF hst
    have e2 := list_of_places hlen' hv'
    rw [filter_true, e2] at hF
    have hneg := paired_neg hi hF
    k_steps
    rename Fr _ _ _ _ => F8
    rename News _ _ _ _ => N8
    have S8 : hs.StaysIn _ := fun b o e => F8.keep b o (St b o e)
    have C8 := CG.stay F8.keep
    refine all_sem C S8 a ns kn C8 G hf (xs.map (- ·)) _ ⟨_, _, rfl, hneg, .inl (News.isList N8 (.head _))⟩ (fun x hx' => by obtain ⟨y, hy, rfl⟩ := List.mem_map.mp hx'; exact (hx y hy).neg) (Nat.le_trans (Nat.succ_le_succ hdp) (by decide)) (Nat.le_trans (Nat.add_le_add_right hun 3) (by decide)) (by omega) (by rw [List.length_map]; exact hxl) ?_
    intro h7 r7 t7 tk7 ns7 kn7 G7 L7 V7 C7 K7 Z7
    k_steps
    try dsimp only
    exact hQ _ _ _ _ _ _ G7 L7.neg (fun inp => by rw [lit_neg L7.1, V7 inp]; exact any_not hx) C7 (fun p o np e => K7 p o np (F8.keep p o (K0 p o e))) (Nat.le_trans (size_of_fr Sz F8) Z7)
end
end Mine
end
section
set_option linter.all false
open PySem PySem.W PyProof.Rows PySem.Calls PyProof.V PySem.Spec
set_option maxRecDepth 100000
namespace Mine
theorem wordsNuMade : True := by
  w_top off
  k_with_none
  k_with "call ref" => (k_here; (with_reducible show wpAny _ _ (call (Value.ref 164) [Value.ref _, Value.int _ _]) _ _ _); k_dflt (refine' next_K ?F ?N ?X ?T ?U ?dp ?un ?d ?k0 ?k1 ?w ?w2 ?c ?i ?ns ?ca ?_; (case F => k_asm); (case N => k_asm); (case X => k_asm); (case T => k_asm); (case U => k_updF); (case dp => omega); (case un => omega); (case d => k_asm); (case c => is_list); (case i => assumption); (case k0 => omega); (case k1 => omega); (case w => omega); (case w2 => omega); (case ns => assumption); (case ca => assumption)); intro h'ω o'ω r'ω tr'ω tk'ω tq'ω F'ω N'ω d'ω r0'ω r1'ω kp'ω; (try dsimp only at N'ω))
  k_with "call builtin:len" => (k_here; (with_reducible show wpAny _ _ (call (Value.builtin "len") [Value.ref _]) _ _ _); k_dflt (refine' len_G ?l ?z ?_; (case l => is_list); (case z => omega)))
  k_with "subscriptTail" => (k_here; (with_reducible show wpAny _ _ (subscriptTail _ _ (Value.ref _) (Value.int _ _)) _ _ _); k_dflt (refine' item_G ?l ?k0 ?k1 ?z ?_ ?hs; (case l => is_list); (case k0 => first | assumption | omega); (case k1 => first | assumption | omega); (case z => first | assumption | omega); (case hs => with_unfolding_all rfl)); intro v'ω hv'ω)
  k_with "eval ListComp" => (k_here; refine stop_intro ?_)
  k_with "eval Name" => (k_dflt (refine' name_loc ?n ?v ?k ?l ?d ?_; (case n => assumption); (case v => assumption); (case k => exact rfl); (case l => exact rfl); (case d => decide)))
  k_with "subscriptTail" => (k_here; (with_reducible show wpAny _ _ (subscriptTail _ _ (Value.ref _) (Value.int _ _)) _ _ _); k_dflt (refine' item_bools ?l ?k0 ?k1 ?z ?_ ?hs; (case l => is_list); (case k0 => first | assumption | omega); (case k1 => first | assumption | omega); (case z => first | assumption | omega); (case hs => with_unfolding_all rfl)))
  k_with "compareOp In" => (k_here; (with_reducible show wpAny _ _ (compareOp CmpOp.In (Value.bool _) (Value.ref _)) _ _ _); k_dflt (refine' in_bools ?l ?_; (case l => is_list)))
  k_with "compareOp NotIn" => (k_here; (with_reducible show wpAny _ _ (compareOp CmpOp.NotIn (Value.bool _) (Value.ref _)) _ _ _); k_dflt (refine' notin_bools ?l ?_; (case l => is_list)))
  k_with "exec For" => (k_here; refine stop_intro ?_)
  k_with "exec For Name Call cons nil" => (k_here; refine stop_intro ?_)
  k_with "exec For Name Name cons nil" => (k_here; refine stop_intro ?_)
  k_with "exec For Tuple Name cons nil" => (k_here; refine stop_intro ?_)
  k_with "exec For Name Attribute cons nil" => (k_here; refine stop_intro ?_)
  k_with "setItem ref int" => (k_here; k_dflt (refine' kda_set (knd := PySem.intKind _ _) ?F ?N ?U ?d (intKind_is _ _ _ _) ?z ?_; (case F => k_asm); (case N => k_asm); (case U => k_updF); (case d => k_asm); (case z => (rw [sizeLine_eq]; omega))); intro h'ω o'ω F'ω N'ω hd'ω; (try dsimp only at N'ω))
  k_with "call builtin:len" => (k_here; (with_reducible show wpAny _ _ (call (Value.builtin "len") [Value.ref _]) _ _ _); k_dflt (refine' len_A ?l ?z ?_; (case l => is_list); (case z => (simp only [Array.size_push, List.size_toArray]; omega))))
  k_with "compareOp In" => (k_here; (with_reducible show wpAny _ _ (compareOp CmpOp.In (Value.int _ _) (Value.ref _)) _ _ _); k_dflt (refine' kda_in (knd := PySem.intKind _ _) ?N ?mem ?hd ?lo (intKind_is _ _ _ _) _ rfl ?_; (case N => k_asm); (case mem => k_mem); (case hd => k_asm); (case lo => assumption)))
  k_with "newTuple" => (k_here; k_dflt (refine' newTuple_S ?F ?N ?_ ?z; (case F => k_asm); (case N => k_asm); (case z => kmk_size)); intro D'ω h'ω St'ω F'ω N'ω l1ω; (try k_lt l1ω))
  trivial
section
variable {w : World} {mean : ExcName → Option Value} {mg mb : Str → Option Value} {hs : Heap} {dp un : Nat} {fr : Option (List Env)} {gd : Option (List Code)} {s : Shared} {Q E : Value → Shared → Prop}
theorem deed_all (f : Int → Bool) (xs : List Int) : deed 0 (xs.map f) = xs.all f := by
  show (!((xs.map f).contains false)) = _
  induction xs with
  | nil => rfl
  | cons x xs ih => rw [List.map_cons, List.contains_cons, List.all_cons, ← ih]; cases f x <;> simp
theorem deed_any (f : Int → Bool) (xs : List Int) : deed 1 (xs.map f) = xs.any f := by
  show ((xs.map f).contains true) = _
  induction xs with
  | nil => rfl
  | cons x xs ih => rw [List.map_cons, List.contains_cons, List.any_cons, ← ih]; cases f x <;> simp
set_option maxHeartbeats 4000000 in
theorem made_t (C : Ctx w mean mg mb hs) (S : hs.StaysIn s.heap) (a : CA) (ns : List Node) (kn : Kn) (CC : IsCirc w s.heap a ns kn) (G : Good ns kn) (hf : Fresh hs a) (kind : Int) (kt : Tok) (xs : List Int) (vs : List Value) (l : Addr) (hl : s.heap.IsList l vs.toArray) (hi : IntsAre vs xs) (hx : ∀ x ∈ xs, Lit ns x) (hxl : xs.length ≤ 8)
   (hk0 : 0 ≤ kind) (hk7 : kind ≤ 7) (h2 : 2 ≤ kind → kind < 7 → xs.length = 2) (h3 : kind = 7 → xs.length = 3)
   (hdp : dp ≤ 600) (hun : un ≤ 8000) (hlen : ns.length ≤ 800) (hQ : OpPost w s a ns 3 (fun inp => deed kind (xs.map (lit inp ns))) Q) :
   wpAny (model PySem.Challenge.rw_nu0266_01.row.prog w) (At dp un fr gd) (call (.ref 183) [.ref a.ci, .int kind kt, .ref l]) Q E s := by
  have X0 := C.X
  revert X0
  k_fill
  intro X0
  refine' enter (binds := [(Str.ofString "circuit", .ref a.ci), (Str.ofString "kind", .int kind kt), (Str.ofString "some", .ref l)]) [] C S ?ho ?hcd ?hr ?hm ?hn ?hbind ?hcell ?hloc ?_ ?hco ?hg ?hk
  case ho => k_is
  case hcd => k_is
  case hr => exact Nat.lt_of_le_of_lt hdp (by decide)
  case hm => intro p hp; cases hp
  case hn => intro p hp; cases hp
  case hbind => exact BindsTo.of_eq rfl
  case hcell => decide
  case hloc => exact locs rfl
  case hco => exact rfl
  case hg => exact rfl
  case hk => exact rfl
  intro g L' h₁ fr' tk0 K0' F N X T St Of Sz
  have K0 : s.heap.StaysIn g := fun b o e => K0' b o (by simp) e
  clear K0'
  have CG := CC.stay K0
  have hlg : g.IsList l vs.toArray := stay_list K0 hl
  obtain ⟨t1, t2, t3, n, I⟩ := CG.inst
  k_steps
  · have e : kind = 0 := by first | assumption | omega
    subst e
    rename Fr _ _ _ _ => F9
    have S9 : hs.StaysIn _ := fun b o e => F9.keep b o (St b o e)
    have C9 := CG.stay F9.keep
    refine all_sem C S9 a ns kn C9 G hf xs _ ⟨_, _, rfl, hi, .inl (stay_list F9.keep hlg)⟩ hx (Nat.le_trans (Nat.succ_le_succ hdp) (by decide)) (Nat.le_trans (Nat.add_le_add_right hun 3) (by decide)) (by omega) hxl ?_
    intro h8 r8 t8 tk8 ns8 kn8 G8 L8 V8 C8 K8 Z8
    try dsimp only
    exact hQ _ _ _ _ _ _ (G8.mono (by decide)) L8 (fun inp => by rw [V8 inp]; exact (deed_all _ _).symm) C8 (fun p o np e => K8 p o np (F9.keep p o (K0 p o e))) (Nat.le_trans (size_of_fr Sz F9) Z8)
  · have e : kind = 1 := by first | assumption | omega
    subst e
    rename Fr _ _ _ _ => F9
    have S9 : hs.StaysIn _ := fun b o e => F9.keep b o (St b o e)
    have C9 := CG.stay F9.keep
    refine any_t C S9 a ns kn C9 G hf xs _ ⟨_, _, rfl, hi, .inl (stay_list F9.keep hlg)⟩ hx hxl (Nat.le_trans (Nat.succ_le_succ hdp) (by decide)) (Nat.le_trans (Nat.add_le_add_right hun 3) (by decide)) (by omega) ?_
    intro h8 r8 t8 tk8 ns8 kn8 G8 L8 V8 C8 K8 Z8
    try dsimp only
    exact hQ _ _ _ _ _ _ (G8.mono (by decide)) L8 (fun inp => by rw [V8 inp]; exact (deed_any _ _).symm) C8 (fun p o np e => K8 p o np (F9.keep p o (K0 p o e))) (Nat.le_trans (size_of_fr Sz F9) Z8)
  · have e : kind = 2 := by first | assumption | omega
    subst e
    obtain ⟨x, y, rfl⟩ : ∃ x y, xs = [x, y] := by
      have := h2 (by decide) (by decide)
      match xs, this with
      | [x, y], _ => exact ⟨x, y, rfl⟩
    obtain ⟨tx, _, rfl, hi1⟩ := hi.cons_inv
    obtain ⟨ty, _, rfl, hi2⟩ := hi1.cons_inv
    have e := hi2.nil_inv
    subst e
    have hxx := hx x (.head _)
    have hyy := hx y (.tail _ (.head _))
    have ev : [Value.int x tx, Value.int y ty].length = 2 := rfl
    rename Fr _ _ _ _ => F9
    have S9 : hs.StaysIn _ := fun b o e => F9.keep b o (St b o e)
    have C9 := CG.stay F9.keep
    refine both_t C S9 a ns kn C9 G hf x y _ _ hxx hyy (Nat.le_trans (Nat.succ_le_succ hdp) (by decide)) (Nat.le_trans (Nat.add_le_add_right hun 3) (by decide)) (by omega) ?_
    intro h8 r8 t8 tk8 ns8 kn8 G8 L8 V8 C8 K8 Z8
    try dsimp only
    exact hQ _ _ _ _ _ _ (G8.mono (by decide)) L8 (fun inp => by rw [V8 inp]; dsimp only; show _ = deed _ [lit inp ns x, lit inp ns y]; generalize lit inp ns x = p; generalize lit inp ns y = q; cases p <;> cases q <;> rfl) C8 (fun p o np e => K8 p o np (F9.keep p o (K0 p o e))) (Nat.le_trans (size_of_fr Sz F9) Z8)
  · have e : kind = 3 := by first | assumption | omega
    subst e
    obtain ⟨x, y, rfl⟩ : ∃ x y, xs = [x, y] := by
      have := h2 (by decide) (by decide)
      match xs, this with
      | [x, y], _ => exact ⟨x, y, rfl⟩
    obtain ⟨tx, _, rfl, hi1⟩ := hi.cons_inv
    obtain ⟨ty, _, rfl, hi2⟩ := hi1.cons_inv
    have e := hi2.nil_inv
    subst e
    have hxx := hx x (.head _)
    have hyy := hx y (.tail _ (.head _))
    have ev : [Value.int x tx, Value.int y ty].length = 2 := rfl
    rename Fr _ _ _ _ => F9
    have S9 : hs.StaysIn _ := fun b o e => F9.keep b o (St b o e)
    have C9 := CG.stay F9.keep
    refine either_t C S9 a ns kn C9 G hf x y _ _ hxx hyy (Nat.le_trans (Nat.succ_le_succ hdp) (by decide)) (Nat.le_trans (Nat.add_le_add_right hun 3) (by decide)) (by omega) ?_
    intro h8 r8 t8 tk8 ns8 kn8 G8 L8 V8 C8 K8 Z8
    try dsimp only
    exact hQ _ _ _ _ _ _ (G8.mono (by decide)) L8 (fun inp => by rw [V8 inp]; dsimp only; show _ = deed _ [lit inp ns x, lit inp ns y]; generalize lit inp ns x = p; generalize lit inp ns y = q; cases p <;> cases q <;> rfl) C8 (fun p o np e => K8 p o np (F9.keep p o (K0 p o e))) (Nat.le_trans (size_of_fr Sz F9) Z8)
  · have e : kind = 4 := by first | assumption | omega
    subst e
    obtain ⟨x, y, rfl⟩ : ∃ x y, xs = [x, y] := by
      have := h2 (by decide) (by decide)
      match xs, this with
      | [x, y], _ => exact ⟨x, y, rfl⟩
    obtain ⟨tx, _, rfl, hi1⟩ := hi.cons_inv
    obtain ⟨ty, _, rfl, hi2⟩ := hi1.cons_inv
    have e := hi2.nil_inv
    subst e
    have hxx := hx x (.head _)
    have hyy := hx y (.tail _ (.head _))
    have ev : [Value.int x tx, Value.int y ty].length = 2 := rfl
    rename Fr _ _ _ _ => F9
    have S9 : hs.StaysIn _ := fun b o e => F9.keep b o (St b o e)
    have C9 := CG.stay F9.keep
    refine implies_t C S9 a ns kn C9 G hf x y _ _ hxx hyy (Nat.le_trans (Nat.succ_le_succ hdp) (by decide)) (Nat.le_trans (Nat.add_le_add_right hun 3) (by decide)) (by omega) ?_
    intro h8 r8 t8 tk8 ns8 kn8 G8 L8 V8 C8 K8 Z8
    try dsimp only
    exact hQ _ _ _ _ _ _ (G8.mono (by decide)) L8 (fun inp => by rw [V8 inp]; dsimp only; show _ = deed _ [lit inp ns x, lit inp ns y]; generalize lit inp ns x = p; generalize lit inp ns y = q; cases p <;> cases q <;> rfl) C8 (fun p o np e => K8 p o np (F9.keep p o (K0 p o e))) (Nat.le_trans (size_of_fr Sz F9) Z8)
  · have e : kind = 5 := by first | assumption | omega
    subst e
    obtain ⟨x, y, rfl⟩ : ∃ x y, xs = [x, y] := by
      have := h2 (by decide) (by decide)
      match xs, this with
      | [x, y], _ => exact ⟨x, y, rfl⟩
    obtain ⟨tx, _, rfl, hi1⟩ := hi.cons_inv
    obtain ⟨ty, _, rfl, hi2⟩ := hi1.cons_inv
    have e := hi2.nil_inv
    subst e
    have hxx := hx x (.head _)
    have hyy := hx y (.tail _ (.head _))
    have ev : [Value.int x tx, Value.int y ty].length = 2 := rfl
    rename Fr _ _ _ _ => F9
    have S9 : hs.StaysIn _ := fun b o e => F9.keep b o (St b o e)
    have C9 := CG.stay F9.keep
    refine iff_t C S9 a ns kn C9 G hf x y _ _ hxx hyy (Nat.le_trans (Nat.succ_le_succ hdp) (by decide)) (Nat.le_trans (Nat.add_le_add_right hun 3) (by decide)) (by omega) ?_
    intro h8 r8 t8 tk8 ns8 kn8 G8 L8 V8 C8 K8 Z8
    try dsimp only
    exact hQ _ _ _ _ _ _ (G8.mono (by decide)) L8 (fun inp => by rw [V8 inp]; dsimp only; show _ = deed _ [lit inp ns x, lit inp ns y]; generalize lit inp ns x = p; generalize lit inp ns y = q; cases p <;> cases q <;> rfl) C8 (fun p o np e => K8 p o np (F9.keep p o (K0 p o e))) (Nat.le_trans (size_of_fr Sz F9) Z8)
  · have e : kind = 6 := by first | assumption | omega
    subst e
    obtain ⟨x, y, rfl⟩ : ∃ x y, xs = [x, y] := by
      have := h2 (by decide) (by decide)
      match xs, this with
      | [x, y], _ => exact ⟨x, y, rfl⟩
    obtain ⟨tx, _, rfl, hi1⟩ := hi.cons_inv
    obtain ⟨ty, _, rfl, hi2⟩ := hi1.cons_inv
    have e := hi2.nil_inv
    subst e
    have hxx := hx x (.head _)
    have hyy := hx y (.tail _ (.head _))
    have ev : [Value.int x tx, Value.int y ty].length = 2 := rfl
    rename Fr _ _ _ _ => F9
    have S9 : hs.StaysIn _ := fun b o e => F9.keep b o (St b o e)
    have C9 := CG.stay F9.keep
    refine unlike_t C S9 a ns kn C9 G hf x y _ _ hxx hyy (Nat.le_trans (Nat.succ_le_succ hdp) (by decide)) (Nat.le_trans (Nat.add_le_add_right hun 3) (by decide)) (by omega) ?_
    intro h8 r8 t8 tk8 ns8 kn8 G8 L8 V8 C8 K8 Z8
    try dsimp only
    exact hQ _ _ _ _ _ _ (G8.mono (by decide)) L8 (fun inp => by rw [V8 inp]; dsimp only; show _ = deed _ [lit inp ns x, lit inp ns y]; generalize lit inp ns x = p; generalize lit inp ns y = q; cases p <;> cases q <;> rfl) C8 (fun p o np e => K8 p o np (F9.keep p o (K0 p o e))) (Nat.le_trans (size_of_fr Sz F9) Z8)
  · have e : kind = 7 := by first | assumption | omega
    subst e
    obtain ⟨x, y, z, rfl⟩ : ∃ x y z, xs = [x, y, z] := by
      have := h3 rfl
      match xs, this with
      | [x, y, z], _ => exact ⟨x, y, z, rfl⟩
    obtain ⟨tx, _, rfl, hi1⟩ := hi.cons_inv
    obtain ⟨ty, _, rfl, hi2⟩ := hi1.cons_inv
    obtain ⟨tz, _, rfl, hi3⟩ := hi2.cons_inv
    have e := hi3.nil_inv
    subst e
    have hxx := hx x (.head _)
    have hyy := hx y (.tail _ (.head _))
    have hzz := hx z (.tail _ (.tail _ (.head _)))
    have ev : [Value.int x tx, Value.int y ty, Value.int z tz].length = 3 := rfl
    rename Fr _ _ _ _ => F9
    have S9 : hs.StaysIn _ := fun b o e => F9.keep b o (St b o e)
    have C9 := CG.stay F9.keep
    refine choose_t C S9 a ns kn C9 G hf x y z _ _ _ hxx hyy hzz (Nat.le_trans (Nat.succ_le_succ hdp) (by decide)) (Nat.le_trans (Nat.add_le_add_right hun 3) (by decide)) (by omega) ?_
    intro h8 r8 t8 tk8 ns8 kn8 G8 L8 V8 C8 K8 Z8
    try dsimp only
    exact hQ _ _ _ _ _ _ (G8.mono (by decide)) L8 (fun inp => by rw [V8 inp]; dsimp only; show _ = deed _ [lit inp ns x, lit inp ns y, lit inp ns z]; generalize lit inp ns x = p; generalize lit inp ns y = q; generalize lit inp ns z = r; cases p <;> cases q <;> cases r <;> rfl) C8 (fun p o np e => K8 p o np (F9.keep p o (K0 p o e))) (Nat.le_trans (size_of_fr Sz F9) Z8)
end
end Mine
end
section
theorem Mine.topOffNuWhile : True := by
  w_top off
  k_with_none
  trivial
set_option linter.all false
open PySem PySem.W PyProof.Rows PySem.Calls PyProof.V PySem.Spec
set_option maxRecDepth 100000
namespace Mine
section
variable {prog : Program} {w : World} {A : Around} {R : Result → Shared → Prop} {s : Shared}
noncomputable def LoopEnd (prog : Program) (w : World) (A : Around) (test : Expr) (body : List Stmt) (env : Env) (R : Result → Shared → Prop) (f : Flow) (s₃ : Shared) : Prop :=
  match f with
  | .next => Stop (codeAny (model prog w) A (.whileLoop test body [] env) R s₃)
  | .cont => Stop (codeAny (model prog w) A (.whileLoop test body [] env) R s₃)
  | .brk => R (.ok .next) s₃
  | .ret v => R (.ok (.ret v)) s₃
theorem while_turn {test : Expr} {body : List Stmt} {env : Env}
    (h : wpAny (model prog w) A (isTrue test env (eval test env)) (fun b s₂ => if b = true then wpAny (model prog w) A (execs body env) (LoopEnd prog w A test body env R) (fun _ _ => False) s₂ else R (.ok .next) s₂) (fun _ _ => False) s) :
    codeAny (model prog w) A (.whileLoop test body [] env) R s := by
  refine codeAny_of_tree ?_
  show wpAny _ A ((whileTurn test body [] env).onRaise (fun x => do noteFrame x env; theTreesLotGoes x)) _ _ s
  refine wpAny_noted ?_
  simp only [whileTurn]
  refine wpAny_bind (wpAny_mono h (fun b s₂ h₂ => ?_) fun _ _ h' => h'.elim)
  cases b with
  | false =>
    simp only [Bool.false_eq_true, if_false] at h₂ ⊢
    exact wpAny_bind (wpAny_execs_nil (wpAny_pure h₂))
  | true =>
    simp only [if_true] at h₂ ⊢
    refine wpAny_bind (wpAny_mono h₂ (fun f s₃ h₃ => ?_) fun _ _ h' => h'.elim)
    cases f with
    | next => exact wpAny_pure ⟨rfl, h₃⟩
    | cont => exact wpAny_pure ⟨rfl, h₃⟩
    | brk => exact wpAny_pure h₃
    | ret v => exact wpAny_pure h₃
end
section
variable {w : World} {mean : ExcName → Option Value} {mg mb : Str → Option Value} {hs : Heap} {dp un : Nat} {fr : Option (List Env)} {gd : Option (List Code)} {s : Shared} {Q E : Value → Shared → Prop}
theorem enterC {name qual : Str} {params : Arguments} {body : List Stmt} {scope : Scope} {dV kV doc pm cdv ct oc : Value} {an od : Option Addr} {osl : Array (Option Value)} {f : Addr} {args : List Value} {binds : List (Str × Value)} (mods : List (Addr × Obj)) (C : Ctx w mean mg mb hs) (S : hs.StaysIn s.heap)
    (ho : (Mine.kx.heap_1 w.params).lookup f = some ⟨oc, od, .func (fnOf name qual params body scope dV kV doc pm an cdv ct), osl⟩) (hcd : codeIn (Mine.kx.heap_1 w.params) cdv qual = true) (hroom : dp < recursionLimit)
    (hm : ∀ p ∈ mods, hs.get? p.1 = none) (hn : ∀ p ∈ mods, s.heap.get? p.1 = some p.2)
    (hbind : BindsTo s (fnOf name qual params body scope dV kV doc pm an cdv ct) ⟨args, []⟩ binds)
    (hkind : ∀ n, ∀ x ∈ binds, scope.names.lookup x.1 = some .local ∨ (scope.names.lookup x.1 = some .cell ∧ ((cellsFrom n scope.names []).lookup x.1).isSome = true))
    (hnd : ((cellsFrom 0 scope.names []).map (·.1)).Nodup)
    (h : ∀ g L' h₁ fr' tk cells, Keep (mods.map (·.1)) s.heap g → Fr g L' h₁ (bindL (envOfC qual scope L' f cdv).kindOf binds fun _ => none) → News g L' h₁ (cells ++ mods) →
      CellsAre (bindC (envOfC qual scope L' f cdv).kindOf binds fun _ => none) (cellsFrom (L' + 1) scope.names []) cells → (∀ p ∈ mods, p.1 < L') → (Mine.kx.heap_1 w.params).In g → Top Mine.vw [] mean mg mb g → hs.StaysIn g →
      (∀ a o, g.get? a = some o → s.heap.get? a = some o) → g.objs.size = s.heap.objs.size →
      wpAny (model PySem.Challenge.rw_nu0266_01.row.prog w) (At (dp + 1) (un + 3) fr' gd) (execs body (envOfC qual scope L' f cdv)) (fun fl s' => Q (match fl with | .ret v => v | _ => .none) s') (fun _ _ => False) { s with heap := h₁, toks := tk })
    (hco : scope.isCoroutine = false) (hgen : scope.isGenerator = false) (hk : scope.kind = .function) :
    wpAny (model PySem.Challenge.rw_nu0266_01.row.prog w) (At dp un fr gd) (call (.ref f) args) Q E s := by
  have X := C.X
  have X' : (Mine.kx.heap_1 w.params).In s.heap := Frag.In.keeps X S
  refine wpAny_call ?_
  have st : hs.StaysIn (hideAll s.heap (mods.map (·.1))) := fun b o e => hideAll_get _ (S b o e) (fun q => by
    obtain ⟨p, hp, rfl⟩ := List.mem_map.mp q
    rw [hm p hp] at e; cases e)
  have st' : ∀ b o, hs.get? b = some o → (hideAll s.heap (mods.map (·.1))).get? b = some o := st
  have X2 := Frag.In.keeps X st'
  have T2 := C.T.keeps st'
  refine codeAny_call_function (fd := fnOf name qual params body scope dV kV doc pm an cdv ct) hroom (X' _ _ ho) rfl hco hgen rfl (codeRec_of X' hcd) (hbind _ _ _ _ ?_)
  refine wpAny_newFunctionEnv_cells hk (hkind _) fun env' he s' x => ?_
  subst he
  refine ⟨((C.T.nolimit).keeps S).keeps x.toInCall.keep, codeAny_func ?_⟩
  obtain ⟨h₁, tk, rfl, _⟩ := x.done
  have hk₁ := x.toInCall.keep
  obtain ⟨cells, NC, Y⟩ := Cl.news (h₀ := s.heap) (Nat.le_refl _) fun n c hm => ⟨x.cell n c (lookup_of_mem_nodup (cellsFrom_names scope.names 0 (s.heap.objs.size + 1) [] [] rfl ▸ hnd) hm), x.above n c hm⟩
  refine wpAny_mono (h (hideAll s.heap (mods.map (·.1))) s.heap.objs.size h₁ _ tk cells (fun a o na e => hideAll_get _ e na) ⟨x.toInCall.ns, fun b o e => hk₁ b o (of_hideAll _ e), Nat.le_of_eq (hideAll_size _ _)⟩
    (fun p hp => ?_) Y (fun p hp => Heap.lt_size (hn p hp)) X2 T2 st (fun a o e => of_hideAll _ e) (hideAll_size _ _)) (fun fl s' hl => hl) (fun _ _ y => y.elim)
  rcases List.mem_append.mp hp with hp | hp
  · refine ⟨(NC p hp).1, (NC p hp).2.1, ?_⟩
    cases q : (hideAll s.heap (mods.map (·.1))).get? p.1 with
    | none => rfl
    | some o => have := of_hideAll _ q; rw [(NC p hp).2.2] at this; cases this
  · exact ⟨hk₁ _ _ (hn p hp), Nat.ne_of_lt (Heap.lt_size (hn p hp)), hideAll_none _ (List.mem_map_of_mem hp)⟩
end
section
variable {prog : Program} {w : World} {K : Type} [DecidableEq K] {knd : KeyKind prog w K} {A : Around} {E : Value → Shared → Prop} {s : Shared} {d : Addr} {kvs : List (K × Value)} {k : K} {key v dflt : Value}
theorem dict_stay {h h' : Heap} (st : ∀ b o, h.get? b = some o → h'.get? b = some o) (D : h.DictOf knd d kvs) : h'.DictOf knd d kvs := by
  obtain ⟨o, ho, hd⟩ := Heap.dictOf_iff.mp D
  exact Heap.dictOf_iff.mpr ⟨o, st _ _ ho, hd⟩
theorem dm_get {pl : Sem Bool} {Q : Value × List Value → Shared → Prop} (hD : s.heap.DictOf knd d kvs) (h : Q (.builtin "dict.get", [.ref d]) s) : wpAny (model prog w) A (getMethod (.ref d) "get" pl) Q E s :=
  getMethod_builtin hD.typeIs PySem.F.plainAttrs_dict PySem.F.slot_dict_get PySem.F.type_dict_get hD.mapOf.noDict h
theorem dc_get2 {Q : Value → Shared → Prop} (hD : s.heap.DictOf knd d kvs) (lo : (d == sysModules) = false) (hkey : knd.is k key = true) (h : Q ((valueAt kvs k).getD dflt) { s with toks := s.toks + 1 }) :
    wpAny (model prog w) A (call (.builtin "dict.get") [.ref d, key, dflt]) Q E s :=
  call_meetsIn PySem.F.slot_dict_get hD.typeIs PySem.F.entry_dict_get (PySem.F.args_dict_get_3 _ _ _) (meets_dict_get_default knd d hkey lo dflt) ⟨_, hD.mapOf, h⟩
theorem dc_notin {Q : Value → Shared → Prop} (hD : s.heap.DictOf knd d kvs) (lo : (d == sysModules) = false) (hkey : knd.is k key = true) (h : Q (.bool (!(valueAt kvs k).isSome)) { s with toks := s.toks + 1 }) :
    wpAny (model prog w) A (compareOp .NotIn key (.ref d)) Q E s := wpAny_notIn_of hkey lo hD.mapOf h
theorem dc_item {value slice : PySem.Expr} {Q : Value → Shared → Prop} (hD : s.heap.DictOf knd d kvs) (hkey : knd.is k key = true) (hl : valueAt kvs k = some v) (h : Q v { s with toks := s.toks + 1 })
    (hs : subscripted slice false (.ref d) key = operate [.ref d, key] (getItem (.ref d) key) := by with_unfolding_all rfl) (hg : ∀ r, letTemporaryGo value (.ref d) r = pure () := by intro _; with_unfolding_all rfl) :
    wpAny (model prog w) A (subscriptTail value slice (.ref d) key) Q E s := subscriptTail_builtin hD.typeIs slot_dict_getitem.lookup (wpAny_getItem_of hkey hD.mapOf hl h) hs hg
end
section
variable {prog : Program} {w : World} {A : Around} {E : Value → Shared → Prop} {s : Shared}
theorem top_item {value slice : PySem.Expr} {l : Addr} {vs : List Value} {v : Value} {u : Tok} {Q : Value → Shared → Prop} (hl : s.heap.IsList l (vs ++ [v]).toArray) (hz : vs.length ≤ 10000) (h : Q v s)
    (hs : subscripted slice false (.ref l) (.int (-1) u) = operate [.ref l, .int (-1) u] (getItem (.ref l) (.int (-1) u)) := by with_unfolding_all rfl) :
    wpAny (model prog w) A (subscriptTail value slice (.ref l) (.int (-1) u)) Q E s := by
  refine kde_neg (j := vs.length) (v := v) hl (by decide) (by decide) ?_ (by simp) h hs
  unfold seqIndex?
  rw [List.length_append, List.length_singleton]
  simp only [show ((-1 : Int) < 0) = True from by simp, if_true]
  have e : (-1 : Int) + ((vs.length + 1 : Nat) : Int) = (vs.length : Int) := by omega
  rw [e]
  simp
  omega
end
end Mine
end
section
theorem Mine.topOffNuProc : True := by
  w_top off
  k_with_none
  trivial
set_option linter.all false
open PySem PySem.W PyProof.Rows PySem.Calls PyProof.V PySem.Spec
set_option maxRecDepth 100000
namespace Mine
noncomputable abbrev Kv := List (Int × Value)
noncomputable def has (K : Kv) (x : Nat) : Prop := (valueAt K (x : Int)).isSome = true
noncomputable def Step (pt : Nat → List Nat) (K : Kv) (S : List Nat) (x : Nat) (K' : Kv) (S' : List Nat) : Prop :=
  (S' = S ∧ has K' x ∧ ∀ y, has K y → has K' y) ∨
  (∃ ms, S' = S ++ [x] ++ ms ∧ K' = K ∧ ms ≠ [] ∧ ms.length ≤ 8 ∧ (∀ m ∈ ms, m ∈ pt x ∧ ¬ has K m) ∧ ∀ m ∈ pt x, has K m ∨ m ∈ ms)
theorem proc {P : Shared → Prop} {Inv : Kv → List Nat → Shared → Prop} {pt : Nat → List Nat} {N : Nat} (hpt : ∀ x m, x < N → m ∈ pt x → 1 ≤ m ∧ m < x)
    (turn : ∀ K S x s, Inv K (S ++ [x]) s → 1 ≤ x → x < N → S.length ≤ 1000 → (∀ K' S' s', Inv K' S' s' → Step pt K S x K' S' → P s') → P s) :
    ∀ x, 1 ≤ x → x < N → ∀ K S s, Inv K (S ++ [x]) s → S.length + 8 * x + 1 ≤ 1000 → (∀ K' s', Inv K' S s' → has K' x → (∀ y, has K y → has K' y) → P s') → P s := by
  intro x
  induction x using Nat.strongRecOn with
  | ind x ih =>
    intro h1 hN K S s hI hB fin
    refine turn K S x s hI h1 hN (by omega) fun K' S' s' hI' st => ?_
    rcases st with ⟨rfl, hx, mono⟩ | ⟨ms, rfl, rfl, hne, hl, hm, hall⟩
    · exact fin K' s' hI' hx mono
    · have many : ∀ (n : Nat) (ms : List Nat), ms.length = n → n ≤ 8 → (∀ m ∈ ms, m ∈ pt x) → ∀ K s, Inv K (S ++ [x] ++ ms) s → (∀ K' s', Inv K' (S ++ [x]) s' → (∀ m ∈ ms, has K' m) → (∀ y, has K y → has K' y) → P s') → P s := by
        intro n
        induction n with
        | zero =>
          intro ms hz _ _ K s hI k
          have := List.eq_nil_of_length_eq_zero hz
          subst this
          rw [List.append_nil] at hI
          exact k K s hI (fun m hm => nomatch hm) fun _ h => h
        | succ n ihn =>
          intro ms hz hn8 hp K s hI k
          obtain ⟨ms', m, rfl⟩ : ∃ ms' m, ms = ms' ++ [m] := by
            have hne : ms ≠ [] := fun e => by rw [e] at hz; cases hz
            exact ⟨ms.dropLast, ms.getLast hne, (List.dropLast_concat_getLast hne).symm⟩
          have hm := hpt x m hN (hp m (List.mem_append_right _ (.head _)))
          rw [← List.append_assoc] at hI
          have hz' : ms'.length = n := by rw [List.length_append] at hz; exact Nat.succ.inj hz
          refine ih m hm.2 hm.1 (Nat.lt_trans hm.2 hN) K _ s hI (by simp only [List.length_append, List.length_cons, List.length_nil]; omega) fun K1 s1 hI1 h1m mono1 => ?_
          refine ihn ms' hz' (by omega) (fun q hq => hp q (List.mem_append_left _ hq)) K1 s1 hI1 fun K2 s2 hI2 hall2 mono2 => ?_
          refine k K2 s2 hI2 (fun q hq => ?_) fun y hy => mono2 y (mono1 y hy)
          rcases List.mem_append.mp hq with hq | hq
          · exact hall2 q hq
          · rw [List.mem_singleton.mp hq]; exact mono2 m h1m
      refine many ms.length ms rfl hl (fun m hm' => (hm m hm').1) K' s' hI' fun K2 s2 hI2 hk2 mono2 => ?_
      refine turn K2 S x s2 hI2 h1 hN (by omega) fun K3 S3 s3 hI3 st3 => ?_
      rcases st3 with ⟨rfl, hx, mono⟩ | ⟨ms3, rfl, rfl, hne3, hl3, hm3, hall3⟩
      · exact fin K3 s3 hI3 hx fun y hy => mono y (mono2 y hy)
      · obtain ⟨m, rest, rfl⟩ := List.exists_cons_of_ne_nil hne3
        have := hm3 m (.head _)
        rcases hall m this.1 with h | h
        · exact absurd (mono2 m h) this.2
        · exact absurd (hk2 m h) this.2
end Mine
end
section
theorem Mine.topOffNuAsg : True := by
  w_top off
  k_with_none
  trivial
set_option linter.all false
open PySem PySem.W PyProof.Rows PySem.Calls PyProof.V PySem.Spec
set_option maxRecDepth 100000
namespace Mine
section
variable {prog : Program} {w : World} {A : Around} {E : Value → Shared → Prop} {s : Shared}
theorem asg_K {g : Heap} {L : Addr} {m : Str → Option Value} {news : List (Addr × Obj)} {env : Env} {elt iter : Expr} {x y : Str} {px py : Pos} {ifs : List Expr} {scope : Scope} {cl : List (Str × Addr)} {pos spos : Pos} {Q : Flow → Shared → Prop} (_F : Fr g L s.heap m) (_N : News g L s.heap news) (p : Value → Bool) (F : Value → Value → Prop)
    (hsw : swapsWith (.ListComp elt [⟨.Name x px, iter, ifs, 0⟩] scope pos) (some (.Name y py)) spos.line env = pure true)
    (hclos : closureFor scope env = pure cl) (hcell : ∀ y ∈ scope.names, y.2 ≠ .cell) (hkind : scope.kind = .function)
    (hnames : ∀ y ∈ scope.names, y.2 = .local → scope.names.lookup y.1 = some .local) (hx : scope.names.lookup x = some .local)
    (hy : env.kindOf y = some .local) (hp : (env.scope.kind == .class || (env.scope.kind == .module && env.locals != env.globals)) = false) (hL : env.locals = L)
    (h : wpAny (model prog w) A (eval iter env) (fun xv s₁ => Stop (∃ n P srcs, Fr g L s₁.heap m ∧ News g L s₁.heap news ∧ Iterates prog w A s₁ xv n P srcs ∧ n ≤ sizeLine ∧ Tests prog w A env scope cl x ifs P p s₁ ∧ Elts prog w A env scope cl x elt P p F s₁ ∧
      (∀ D h' tk ys k (vs : List Value), Fr g L h' (fun z => if z = y then some (.ref D) else m z) → News g L h' ((D, { cls := .type "list", data := .seq ys.toArray k }) :: news) → (∀ p ∈ news, p.1 ≠ D) → vs.length = n → (∀ j v, vs[j]? = some v → P j v) → Paired F (vs.filter p) ys → (∀ b o, b ≠ L → s₁.heap.get? b = some o → h'.get? b = some o) → Q .next { s₁ with heap := h', toks := tk }))) E s)
    (hs : ∀ x, foldedSetIterable iter env x = pure x) :
    wpAny (model prog w) A (exec (.Assign [.Name y py] (.ListComp elt [⟨.Name x px, iter, ifs, 0⟩] scope pos) spos) env) Q E s := by
  subst hL
  refine wpAny_Assign_ListComp_free p F hsw hclos hcell hkind hnames hx hy hp (wpAny_mono h (fun xv s₁ h₁ => ?_) fun _ _ e => e) hs
  obtain ⟨n, P, srcs, Fm, N, It, hsz, hT, hE, hQ⟩ := h₁
  refine It _ _ fun o St W st hsr hI hf _ => ?_
  have up : s₁.heap.StaysIn (s₁.heap.push o) := fun b ob e => Heap.get?_push_of_some _ e
  have off : ∀ b ob, s₁.heap.get? b = some ob → b ∉ [s₁.heap.objs.size] := fun b ob e hm => absurd (Heap.lt_size e) ((List.mem_singleton.mp hm) ▸ Nat.lt_irrefl _)
  have Fp := Fm.keeps up
  refine ⟨_, _, _, n, P, St, m, rfl, W, hsz, st, fun b hb => ?_, ?_, Fp.ns, ⟨?_, ?_⟩, ?_⟩
  · show b < (s₁.heap.push o).objs.size
    rw [Heap.size_push]
    rcases List.mem_cons.mp hb with rfl | hb
    · exact Nat.lt_succ_self _
    · obtain ⟨ob, e⟩ := hsr b hb; exact Nat.lt_succ_of_lt (Heap.lt_size e)
  · intro hm; exact absurd Fm.ns.lt (by rw [List.mem_singleton.mp hm]; exact Nat.lt_irrefl _)
  · intro C i v s₃ m₃ E' hC hP hn hm hk _
    have hC' : s₁.heap.objs.size + 1 ≤ C := by have : (s₁.heap.push o).objs.size ≤ C := hC; rwa [Heap.size_push] at this
    exact hT C i v s₃ m₃ E' (Nat.le_of_succ_le hC') hP hn hm fun b ob e => hk b ob (off b ob e) (up b ob e)
  · intro C i v s₃ m₃ E' hC hP hp hn hm hk _
    have hC' : s₁.heap.objs.size + 1 ≤ C := by have : (s₁.heap.push o).objs.size ≤ C := hC; rwa [Heap.size_push] at this
    exact hE C i v s₃ m₃ E' (Nat.le_of_succ_le hC') hP hp hn hm fun b ob e => hk b ob (off b ob e) (up b ob e)
  · intro D h' tk ys vs hD hl hpl hlen hP hF hns hk
    have hk' : ∀ b ob, b ≠ env.locals → s₁.heap.get? b = some ob → h'.get? b = some ob := fun b ob hb e => hk b ob hb (off b ob e) (up b ob e)
    obtain ⟨k, e⟩ := hpl
    have hD' : (s₁.heap.push o).get? D = none := hD
    have hDs : s₁.heap.get? D = none := by
      cases q : s₁.heap.get? D with
      | none => rfl
      | some ob => rw [up D ob q] at hD'; cases hD'
    have hDL : D ≠ env.locals := by rintro rfl; obtain ⟨o, _, _, ho, _⟩ := Fm.ns; rw [hDs] at ho; cases ho
    have hDg : g.get? D = none := by
      cases q : g.get? D with
      | none => rfl
      | some o => rw [Fm.keep D o q] at hDs; cases hDs
    have F' : Fr g env.locals h' (fun z => if z = y then some (.ref D) else m z) := ⟨hns, fun b ob eb => hk' b ob (Nat.ne_of_lt (Nat.lt_of_lt_of_le (Heap.lt_size eb) Fm.above)) (Fm.keep b ob eb), Fm.above⟩
    refine hQ D h' tk ys.toList k vs F' (fun p hp => ?_) (fun p hp q => ?_) hlen hP hF hk'
    · rcases List.mem_cons.mp hp with rfl | hp
      · exact ⟨e, hDL, hDg⟩
      · exact ⟨hk' _ _ (N p hp).2.1 (N p hp).1, (N p hp).2⟩
    · have z := (N p hp).1
      rw [q, hDs] at z; cases z
end
end Mine
end
section
theorem Mine.topOffNuInv : True := by
  w_top off
  k_with_none
  trivial
set_option linter.all false
open PySem PySem.W PyProof.Rows PySem.Calls PyProof.V PySem.Spec
set_option maxRecDepth 100000
namespace Mine
section
variable {prog : Program} {w : World} {A : Around} {R : Result → Shared → Prop} {s : Shared}
inductive LoopI (s : Shared) (cl D : Addr) (wr Z M : List Addr) (n : Nat) (St : Nat → Heap → Prop) (J : Nat → Heap → List Value → Prop) (k : Nat) (s' : Shared) : Prop
  | mk : ∀ h' tk m' ys i, (s' = { s with heap := h', toks := tk }) → (St i h') → (h'.PlainList D ys) → (h'.Ns cl m') → (ys.size = i) → (i ≤ n) → (k = n + 1 - i) → ((∀ h'', Keep Z h' h'' → J i h'' ys.toList)) → (Keep (D :: cl :: wr ++ M) s.heap h') → LoopI s cl D wr Z M n St J k s'
theorem loop_inv {elt iter : Expr} {x : Str} {px : Pos} {scope : Scope} {pos : Pos} {I D : Addr} {fp wr : List Addr} {n : Nat} {P : Nat → Value → Prop} {St : Nat → Heap → Prop}
    {cenv : Env} {m : Str → Option Value} (W : Walks prog w A I fp wr n P St) (Z M : List Addr) (J : Nat → Heap → List Value → Prop)
    (hx : cenv.kindOf x = some .local) (hp : (cenv.scope.kind == .class || (cenv.scope.kind == .module && cenv.locals != cenv.globals)) = false)
    (hDC : D ≠ cenv.locals) (hDf : D ∉ fp) (hCf : cenv.locals ∉ fp) (hMf : ∀ b ∈ fp, b ∉ M) (hMD : D ∉ M) (hMC : cenv.locals ∉ M) (hZD : D ∈ Z) (hZC : cenv.locals ∈ Z) (hZw : ∀ b ∈ wr, b ∈ Z)
    (hst : St 0 s.heap) (hacc : s.heap.PlainList D #[]) (hn : s.heap.Ns cenv.locals m)
    (h0 : ∀ h'', Keep Z s.heap h'' → J 0 h'' [])
    (helt : ∀ i v s₂ m₂ ys, i < n → P i v → s₂.heap.Ns cenv.locals m₂ → m₂ x = some v → Keep (D :: cenv.locals :: wr ++ M) s.heap s₂.heap → s₂.heap.PlainList D ys → ys.size = i → St (i + 1) s₂.heap → J i s₂.heap ys.toList →
      wpAny (model prog w) A (eval elt cenv) (fun y s₃ => Stop (∃ h' tk, s₃ = { s₂ with heap := h', toks := tk } ∧ Keep M s₂.heap h' ∧ ∀ h'', Keep Z h' h'' → J (i + 1) h'' (ys.toList ++ [y]))) (fun _ _ => False) s₂)
    (hR : ∀ h' tk m' ys, h'.Ns cenv.locals m' → h'.PlainList D ys → ys.size = n → (∀ h'', Keep Z h' h'' → J n h'' ys.toList) → Keep (D :: cenv.locals :: wr ++ M) s.heap h' → R (.ok .next) { s with heap := h', toks := tk })
    (hsz : n ≤ sizeLine) :
    codeAny (model prog w) A (.compLoop (.ListComp elt [⟨.Name x px, iter, [], 0⟩] scope pos) 0 (.ref I) (.ref D) cenv) R s := by
  have hCw : cenv.locals ∉ wr := fun h => hCf (W.sub _ h)
  have hDw : D ∉ wr := fun h => hDf (W.sub _ h)
  have big : ∀ {b : Addr}, b ∉ (D :: cenv.locals :: wr ++ M) → b ∉ (D :: cenv.locals :: wr) ∧ b ∉ M := fun {b} h => ⟨fun q => h (List.mem_append_left _ q), fun q => h (List.mem_append_right _ q)⟩
  have zne : ∀ {b : Addr}, b ∉ (D :: cenv.locals :: wr) → b ≠ D ∧ b ≠ cenv.locals ∧ b ∉ wr := fun {b} h => ⟨fun q => h (q ▸ .head _), fun q => h (q ▸ .tail _ (.head _)), fun q => h (.tail _ (.tail _ q))⟩
  have sub : ∀ b ∈ (D :: cenv.locals :: wr), b ∈ Z := List.forall_mem_cons.mpr ⟨hZD, List.forall_mem_cons.mpr ⟨hZC, hZw⟩⟩
  refine codeAny_compLoop_tests
    (LoopI s cenv.locals D wr Z M n St J) ?_ (n + 1)
    ⟨s.heap, s.toks, m, #[], 0, rfl, hst, hacc, hn, rfl, Nat.zero_le _, rfl, h0, fun _ _ _ e => e⟩
  rintro k s' ⟨H, tk, m', ys, i, rfl, hst', hacc', hn', hys, hi, rfl, hJ, hk⟩
  by_cases hlt : i < n
  · refine W.item i _ _ _ hlt hst' fun v h₁ tk₁ hPv hst₁ hk₁ => ?_
    refine wpAny_assign_Name (wpAny_storeName_local hx (hn'.at' fun o e => hk₁ _ o hCw e) (fun h₂ hn₂ hs₂ => ?_) hp)
    have up₂ : ∀ b o, b ≠ cenv.locals → b ∉ wr → H.get? b = some o → h₂.get? b = some o := fun b o hbC hbf e => hs₂.extBut b o hbC (hk₁ b o hbf e)
    have hst₂ : St (i + 1) h₂ := W.frame _ _ _ hst₁ fun b hb o e => hs₂.extBut b o (fun h => hCf (h ▸ hb)) e
    have K₂ : Keep (D :: cenv.locals :: wr) H h₂ := fun b o nb e => up₂ b o (zne nb).2.1 (zne nb).2.2 e
    have hacc₂ : h₂.PlainList D ys := hacc'.at fun o e => up₂ D o hDC hDw e
    refine wpAny_tests_nil ?_
    simp only [if_true]
    refine wpAny_mono (helt i v _ _ ys hlt hPv hn₂ (by simp) (fun b o nb e => K₂ b o (big nb).1 (hk b o nb e)) hacc₂ hys hst₂ (hJ _ (K₂.mono sub))) (fun y s₄ h₄ => ?_) fun _ _ e => e.elim
    obtain ⟨h₄, tk₄, rfl, K₄, hJ₄⟩ := h₄
    have hys2 : ys.size ≤ sizeLine := by omega
    refine wpAny_list_append_plain (hsz := hys2) (hacc₂.at fun o e => K₄ _ o hMD e) fun h₅ hl₅ hs₅ => ?_
    have K₅ : Keep (D :: cenv.locals :: wr) h₄ h₅ := fun b o nb e => hs₅.extBut b o (zne nb).1 e
    refine ⟨n + 1 - (i + 1), by omega, h₅, tk₄, _, ys.push y, i + 1, rfl, ?_, hl₅, (hn₂.at' fun o e => K₄ _ o hMC e).sameBut hs₅ (Ne.symm hDC), by rw [Array.size_push, hys], hlt, rfl, fun h'' K'' => ?_, fun b o nb e => ?_⟩
    · exact W.frame _ _ h₅ hst₂ fun b hb o e => hs₅.extBut b o (fun h => hDf (h ▸ hb)) (K₄ b o (hMf b hb) e)
    · rw [Array.toList_push]; exact hJ₄ h'' ((K₅.mono sub).trans K'')
    · exact hs₅.extBut b o (zne (big nb).1).1 (K₄ b o (big nb).2 (K₂ b o (big nb).1 (hk b o nb e)))
  · have hin : i = n := by omega
    subst hin
    refine W.done _ _ _ hst' fun h₁ tk₁ hk₁ => ?_
    have K₁ : Keep (D :: cenv.locals :: wr) H h₁ := fun b o nb e => hk₁ b o (zne nb).2.2 e
    exact hR h₁ tk₁ m' ys (hn'.at' fun o e => hk₁ _ o hCw e) (hacc'.at fun o e => hk₁ _ o hDw e) hys (fun h'' K'' => hJ _ ((K₁.mono sub).trans K'')) fun b o nb e => K₁ b o (big nb).1 (hk b o nb e)
end
section
variable {prog : Program} {w : World} {A : Around} {E : Value → Shared → Prop} {env : Env}
theorem block_inv {elt iter : Expr} {x : Str} {px : Pos} {scope : Scope} {cl : List (Str × Addr)} {pos : Pos} {s₂ : Shared} {I : Addr} {fp wr : List Addr} {n : Nat} {P : Nat → Value → Prop}
    {St : Nat → Heap → Prop} (W : Walks prog w A I fp wr n P St) (hsz : n ≤ sizeLine) (Y M : List Addr) (J : Nat → Heap → List Value → Prop) {RR : Value → Addr → Result → Shared → Prop}
    (hcell : ∀ y ∈ scope.names, y.2 ≠ .cell) (hkind : scope.kind = .function) (hx : scope.names.lookup x = some .local) (hst : St 0 s₂.heap) (hfp : ∀ b ∈ fp, b < s₂.heap.objs.size)
    (hMs : ∀ b ∈ M, b < s₂.heap.objs.size) (hMf : ∀ b ∈ fp, b ∉ M)
    (h0 : ∀ D C h'', s₂.heap.get? D = none → s₂.heap.get? C = none → Keep (D :: C :: wr ++ Y) s₂.heap h'' → J 0 h'' [])
    (helt : ∀ D C i v s₃ m₃ ys, s₂.heap.get? D = none → s₂.heap.get? C = none → i < n → P i v → s₃.heap.Ns C m₃ → m₃ x = some v → Keep (wr ++ M) s₂.heap s₃.heap → s₃.heap.PlainList D ys → ys.size = i → St (i + 1) s₃.heap → J i s₃.heap ys.toList →
      wpAny (model prog w) A (eval elt (compEnvC scope cl C env)) (fun y s₄ => Stop (∃ h' tk, s₄ = { s₃ with heap := h', toks := tk } ∧ Keep M s₃.heap h' ∧ ∀ h'', Keep (D :: C :: wr ++ Y) h' h'' → J (i + 1) h'' (ys.toList ++ [y]))) (fun _ _ => False) s₃)
    (hRR : ∀ D C h' tk m' ys, s₂.heap.get? D = none → s₂.heap.get? C = none → D ≠ C → h'.Ns C m' → h'.PlainList D ys → ys.size = n → (∀ h'', Keep (D :: C :: wr ++ Y) h' h'' → J n h'' ys.toList) → Keep (wr ++ M) s₂.heap h' →
      RR (.ref D) C (.ok .next) { s₂ with heap := h', toks := tk }) :
    wpAny (model prog w) A (newList []) (fun acc s₃ => wpAny (model prog w) A (newFunctionEnv scope env.globals cl [] env.qual none .none (some env)) (fun cenv s₄ =>
      codeAny (model prog w) A (.compStart (.ListComp elt [⟨.Name x px, iter, [], 0⟩] scope pos) 0 (.ref I) acc { cenv with scope := relabel scope env }) (RR acc cenv.locals) s₄) E s₃) E s₂ := by
  refine wpAny_newObj_type (wpAny_newFunctionEnv hcell (by intro y hy; simp at hy) (fun h₁ hns₁ hsb₁ => ?_) hkind)
  dsimp only at hns₁ hsb₁ ⊢
  generalize hH2 : s₂.heap.push { cls := .type "list", dict := none, data := .seq ([] : List Value).toArray } = H2 at hns₁ hsb₁ ⊢
  have hC : H2.objs.size = s₂.heap.objs.size + 1 := by rw [← hH2, Heap.size_push]
  have hDC : s₂.heap.objs.size ≠ H2.objs.size := by rw [hC]; exact Nat.ne_of_lt (Nat.lt_succ_self _)
  have below : ∀ b, b < s₂.heap.objs.size → b ≠ H2.objs.size ∧ b ≠ s₂.heap.objs.size := fun b hb => ⟨by rw [hC]; exact Nat.ne_of_lt (Nat.lt_succ_of_lt hb), Nat.ne_of_lt hb⟩
  have hDf : s₂.heap.objs.size ∉ fp := fun hm => Nat.lt_irrefl _ (hfp _ hm)
  have hCf : H2.objs.size ∉ fp := fun hm => by have := hfp _ hm; rw [hC] at this; exact Nat.lt_irrefl _ (Nat.lt_of_succ_lt this)
  have hDM : s₂.heap.objs.size ∉ M := fun hm => Nat.lt_irrefl _ (hMs _ hm)
  have hCM : H2.objs.size ∉ M := fun hm => by have := hMs _ hm; rw [hC] at this; exact Nat.lt_irrefl _ (Nat.lt_of_succ_lt this)
  have old : ∀ b o, s₂.heap.get? b = some o → h₁.get? b = some o := fun b o e => hsb₁.extBut b o (below b (Heap.lt_size e)).1 (Heap.get?_push_of_some _ (hH2 ▸ Heap.get?_push_of_some _ e))
  have hacc : h₁.PlainList s₂.heap.objs.size #[] := ⟨_, hsb₁.extBut _ _ hDC (Heap.get?_push_of_some _ (hH2 ▸ Heap.get?_push_size _ rfl))⟩
  have hst₁ : St 0 h₁ := W.frame _ _ _ hst fun b _ o e => old b o e
  have fresh : ∀ a, s₂.heap.objs.size ≤ a → s₂.heap.get? a = none := fun a ha => by
    cases e : s₂.heap.get? a with
    | none => rfl
    | some o' => exact absurd (Heap.lt_size e) (Nat.not_lt.mpr ha)
  have fD := fresh _ (Nat.le_refl _)
  have fC := fresh H2.objs.size (by rw [hC]; exact Nat.le_succ _)
  have back : ∀ {h' : Heap}, Keep (s₂.heap.objs.size :: H2.objs.size :: wr ++ M) h₁ h' → Keep (wr ++ M) s₂.heap h' := fun {h'} K b o nb e => K b o (fun hm => by
    rcases List.mem_cons.mp hm with q | hm
    · exact (below b (Heap.lt_size e)).2 q
    · rcases List.mem_cons.mp hm with q | hm
      · exact (below b (Heap.lt_size e)).1 q
      · exact nb hm) (old b o e)
  have loop : ∀ s₃ : Shared, s₃ = { s₂ with heap := h₁, toks := s₂.toks + ([] : List (Str × Value)).length } →
      codeAny (model prog w) A (.compLoop (.ListComp elt [⟨.Name x px, iter, [], 0⟩] scope pos) 0 (.ref I) (.ref s₂.heap.objs.size) (compEnvC scope cl H2.objs.size env))
        (RR (.ref s₂.heap.objs.size) H2.objs.size) s₃ := by
    rintro s₃ rfl
    refine loop_inv (cenv := compEnvC scope cl H2.objs.size env) W (s₂.heap.objs.size :: H2.objs.size :: wr ++ Y) M J (lookup_relabel_local hx) (by simp [compEnvC, relabel, hkind]) hDC hDf hCf hMf hDM hCM (.head _) (.tail _ (.head _)) (fun b hb => .tail _ (.tail _ (List.mem_append_left _ hb))) hst₁ hacc hns₁
      (fun h'' K => h0 _ _ h'' fD fC fun b o nb e => K b o nb (old b o e))
      (fun i v s₃ m₃ ys hi hv hn hm hk hl hys hst3 hJ => helt _ _ i v s₃ m₃ ys fD fC hi hv hn hm (back hk) hl hys hst3 hJ)
      (fun h' tk m' ys hn hl hys hJ hk => hRR _ _ h' tk m' ys fD fC hDC hn hl hys hJ (back hk)) hsz
  exact codeAny_compStart_list (loop _ rfl) (W.self 0 _ _ _ hst₁ (loop _ rfl))
end
end Mine
end
section
theorem Mine.topOffNuRan : True := by
  w_top off
  k_with_none
  trivial
set_option linter.all false
open PySem PySem.W PyProof.Rows PySem.Calls PyProof.V PySem.Spec
set_option maxRecDepth 100000
namespace Mine
/-- what an element of a comprehension over a range finds and leaves -/
noncomputable def EltsR (prog : Program) (w : World) (A : Around) (env : Env) (scope : Scope) (cl : List (Str × Addr)) (x : Str) (elt : Expr) (n : Nat) (Y M : List Addr) (J : Nat → Heap → List Value → Prop) (s₁ : Shared) : Prop :=
  ∀ (Z : List Addr) (D C : Addr) (i : Nat) (t : Tok) (s₃ : Shared) (m₃ : Str → Option Value) (ys : List Value), s₁.heap.get? D = none → s₁.heap.get? C = none → (∀ z ∈ Z, z ∈ Y ∨ s₁.heap.get? z = none) →
    (∀ z ∈ Z, z ∉ Y → z = D ∨ ∃ o, s₃.heap.get? z = some o ∧ ∀ items k, o.data ≠ .seq items k) → s₃.heap.PlainList D ys.toArray → i < n → ys.length = i →
    s₃.heap.Ns C m₃ → m₃ x = some (.int (i : Int) t) → Keep M s₁.heap s₃.heap → J i s₃.heap ys →
    wpAny (model prog w) A (eval elt (compEnvC scope cl C env)) (fun y s₄ => Stop (∃ h' tk, s₄ = { s₃ with heap := h', toks := tk } ∧ Keep M s₃.heap h' ∧ ∀ h'', Keep Z h' h'' → J (i + 1) h'' (ys ++ [y]))) (fun _ _ => False) s₃
noncomputable def FinR (prog : Program) (w : World) (A : Around) (env : Env) (y : Str) (n : Nat) (Y M : List Addr) (J : Nat → Heap → List Value → Prop) (Q : Flow → Shared → Prop) (E : Value → Shared → Prop) (s₁ : Shared) : Prop :=
  ∀ (Z : List Addr) (D C : Addr) (h' : Heap) (tk : Nat) (ys : List Value) (m' : Str → Option Value), s₁.heap.get? D = none → s₁.heap.get? C = none → D ≠ C → C ∈ Z → (∀ b ∈ Y, b ∈ Z) → h'.Ns C m' → h'.PlainList D ys.toArray → ys.length = n → (∀ h'', Keep Z h' h'' → J n h'' ys) → Keep M s₁.heap h' →
        wpAny (model prog w) A (storeName env y (.ref D)) (fun _ s'' => ∃ m, s''.heap.Ns C m ∧ ∀ h3, Heap.SameBut C s''.heap h3 → Q .next { s'' with heap := h3 }) E { s₁ with heap := h', toks := tk }
section
variable {prog : Program} {w : World} {A : Around} {E : Value → Shared → Prop} {s : Shared}
theorem asg_range {env : Env} {elt iter : Expr} {x y : Str} {px py : Pos} {scope : Scope} {cl : List (Str × Addr)} {pos spos : Pos} {Q : Flow → Shared → Prop}
    (hsw : swapsWith (.ListComp elt [⟨.Name x px, iter, [], 0⟩] scope pos) (some (.Name y py)) spos.line env = pure true)
    (hclos : closureFor scope env = pure cl) (hcell : ∀ y ∈ scope.names, y.2 ≠ .cell) (hkind : scope.kind = .function)
    (hnames : ∀ y ∈ scope.names, y.2 = .local → scope.names.lookup y.1 = some .local) (hx : scope.names.lookup x = some .local) (hh : A.handled = none)
    (h : wpAny (model prog w) A (eval iter env) (fun xv s₁ => Stop (∃ (r : Addr) (b : Int) (t u v : Tok) (n : Nat) (Y M : List Addr) (J : Nat → Heap → List Value → Prop), xv = .ref r ∧ IsRange s₁.heap r 0 b 1 t u v ∧ Builtin.Range.small 0 b 1 = true ∧ Builtin.Range.rangeSize 0 b 1 = (n : Int) ∧ n ≤ sizeLine ∧
      (∀ b ∈ M, ∃ o, s₁.heap.get? b = some o) ∧ (∀ b ∈ Y, ∃ o, s₁.heap.get? b = some o) ∧ (∀ h'', Keep Y s₁.heap h'' → J 0 h'' []) ∧ EltsR prog w A env scope cl x elt n Y M J s₁ ∧
      FinR prog w A env y n Y M J Q E s₁)) E s)
    (hs : ∀ x, foldedSetIterable iter env x = pure x) :
    wpAny (model prog w) A (exec (.Assign [.Name y py] (.ListComp elt [⟨.Name x px, iter, [], 0⟩] scope pos) spos) env) Q E s := by
  rw [exec_Assign_Name_used _ _ _ _ hsw]
  refine wpAny_bind (wpAny_standAt (wpAny_bind ?_))
  show wpAny _ A (do let _ ← comprehension (.ListComp elt [⟨.Name x px, iter, [], 0⟩] scope pos) scope env _ (newList []) false (eval iter env) (some (assign (.Name y py) env))) _ _ s
  refine wpAny_bind (wpAny_mono (wpAny_comprehension_free (use := some (assign (.Name y py) env)) (Q := fun _ s' => Q .next s') rfl hs hclos hkind hnames
    (wpAny_mono h (fun xv s₁ h₁ => ?_) fun _ _ e => e)) (fun _ s' hq => wpAny_pure (wpAny_pure hq)) fun _ _ e => e)
  obtain ⟨r, b, t, u, v, n, Y, M, J, rfl, hr, hsmall, hn, hsz, hM, hY, h0, hE, hfin⟩ := h₁
  refine wpAny_pyIter_range hr hsmall ?_
  have W := Walks.range (prog := prog) (w := w) hh s₁.heap.objs.size 0 1 n
  generalize ho : ({ cls := .type "range_iterator", dict := none, data := .fields #[rawInt 0, rawInt (Builtin.Range.rangeSize 0 b 1), rawInt 1], slots := #[] } : Obj) = o
  have up : ∀ b ob, s₁.heap.get? b = some ob → (s₁.heap.push o).get? b = some ob := fun b ob e => Heap.get?_push_of_some _ e
  have nI : ∀ b ob, s₁.heap.get? b = some ob → b ≠ s₁.heap.objs.size := fun b ob e => Nat.ne_of_lt (Heap.lt_size e)
  have back : ∀ b, (s₁.heap.push o).get? b = none → s₁.heap.get? b = none := fun b e => by
    cases q : s₁.heap.get? b with
    | none => rfl
    | some ob => rw [up b ob q] at e; cases e
  have fI : s₁.heap.get? s₁.heap.objs.size = none := by
    cases q : s₁.heap.get? s₁.heap.objs.size with
    | none => rfl
    | some ob => exact absurd (Heap.lt_size q) (Nat.lt_irrefl _)
  have keepM : ∀ {h' : Heap}, Keep ([s₁.heap.objs.size] ++ M) (s₁.heap.push o) h' → Keep M s₁.heap h' := fun {h'} K b ob nb e => K b ob (fun hm => by
    rcases List.mem_cons.mp hm with q | hm
    · exact nI b ob e q
    · exact nb hm) (up b ob e)
  have hst : IsRangeIter (s₁.heap.push o) s₁.heap.objs.size (0 + ((0 : Nat) : Int) * 1) ((n : Int) - ((0 : Nat) : Int)) 1 := by
    rw [← ho, hn]
    simpa using Heap.get?_push_size _ rfl
  refine block_inv (RR := fun acc C => compPost (model prog w) A E (some (assign (.Name y py) env)) (fun _ s' => Q .next s') acc C) W hsz Y M J hcell hkind hx hst ?_ ?_ ?_ ?_ ?_ ?_
  · intro b hb; rw [List.mem_singleton.mp hb]; show s₁.heap.objs.size < (s₁.heap.push o).objs.size; rw [Heap.size_push]; exact Nat.lt_succ_self _
  · intro b hb; obtain ⟨ob, e⟩ := hM b hb; exact Heap.lt_size (up b ob e)
  · intro b hb hm; obtain ⟨ob, e⟩ := hM b hm; exact nI b ob e (List.mem_singleton.mp hb)
  · intro D C h'' hD hC K
    refine h0 h'' fun b ob nb e => K b ob (fun hm => ?_) (up b ob e)
    rcases List.mem_append.mp hm with hm | hm
    · rcases List.mem_cons.mp hm with q | hm
      · rw [q, back D hD] at e; cases e
      · rcases List.mem_cons.mp hm with q | hm
        · rw [q, back C hC] at e; cases e
        · exact nI b ob e (List.mem_singleton.mp hm)
    · exact nb hm
  · intro D C i v s₃ m₃ ys hD hC hi hv hn hm hk hl hys hst3 hJ
    obtain ⟨t', rfl⟩ := hv
    have e0 : (0 : Int) + (i : Int) * 1 = (i : Int) := by omega
    rw [e0] at hm
    refine hE (D :: C :: [s₁.heap.objs.size] ++ Y) D C i t' s₃ m₃ ys.toList (back D hD) (back C hC) ?_ ?_ (by rw [Array.toArray_toList]; exact hl) hi (by rw [Array.length_toList]; exact hys) hn hm (keepM hk) hJ
    · intro z hz
      rcases List.mem_append.mp hz with hz | hz
      · rcases List.mem_cons.mp hz with q | hz
        · rw [q]; exact .inr (back D hD)
        · rcases List.mem_cons.mp hz with q | hz
          · rw [q]; exact .inr (back C hC)
          · rw [List.mem_singleton.mp hz]; exact .inr fI
      · exact .inl hz
    · intro z hz hzY
      rcases List.mem_append.mp hz with hz | hz
      · rcases List.mem_cons.mp hz with q | hz
        · exact .inl q
        · rcases List.mem_cons.mp hz with q | hz
          · obtain ⟨ob, es, ep, e, hd, _⟩ := hn
            exact .inr ⟨ob, q ▸ e, fun items k q' => by rw [hd] at q'; cases q'⟩
          · rw [List.mem_singleton.mp hz]
            exact .inr ⟨_, hst3, fun items k q' => by cases q'⟩
      · exact absurd hz hzY
  · intro D C h' tk m' ys hD hC hDC hn hl hys hJ hk
    show wpAny _ A (assign (.Name y py) env (.ref D)) _ _ _
    exact wpAny_assign_Name (hfin (D :: C :: [s₁.heap.objs.size] ++ Y) D C h' tk ys.toList m' (back D hD) (back C hC) hDC (.tail _ (.head _)) (fun b hb => List.mem_append_right _ hb) hn (by rw [Array.toArray_toList]; exact hl) (by rw [Array.length_toList]; exact hys) hJ (keepM hk))
theorem fin_loc {g : Heap} {L : Addr} {m : Str → Option Value} {news : List (Addr × Obj)} {M : List Addr} {J : Nat → Heap → List Value → Prop} {n : Nat} {env : Env} {y : Str} {s₁ : Shared} {Q : Flow → Shared → Prop} (hL : env.locals = L) (F : Fr g L s₁.heap m) (N : News g L s₁.heap news) (hML : L ∉ M) (hMg : ∀ b ∈ M, g.get? b = none) (hMn : ∀ p ∈ news, p.1 ∉ M)
    (hy : env.kindOf y = some .local) (hp : (env.scope.kind == .class || (env.scope.kind == .module && env.locals != env.globals)) = false)
    (k : ∀ D h3 tk ys kk, Fr g L h3 (fun z => if z = y then some (.ref D) else m z) → News g L h3 ((D, listOf ys.toArray kk) :: news) → s₁.heap.get? D = none → ys.length = n → J n h3 ys → Keep (L :: M) s₁.heap h3 → Q .next { s₁ with heap := h3, toks := tk }) :
    FinR prog w A env y n [L] M J Q E s₁ := by
  subst hL
  intro Z D C h' tk ys m' hD hC hDC hCZ hYZ hn hl hys hJ hK
  obtain ⟨oL, es, ep, eL, rL⟩ := F.ns
  have nLC : env.locals ≠ C := fun q => by rw [q, hC] at eL; cases eL
  have nLD : env.locals ≠ D := fun q => by rw [q, hD] at eL; cases eL
  have F' : h'.Ns env.locals m := F.ns.at' fun o e => hK _ o hML e
  refine wpAny_storeName_local hy F' (fun h₂ hn₂ hs₂ => ⟨m', hn.sameBut hs₂ (Ne.symm nLC), fun h3 hs3 => ?_⟩) hp
  have k3 : ∀ b o, b ≠ env.locals → b ≠ C → h'.get? b = some o → h3.get? b = some o := fun b o n1 n2 e => hs3.extBut b o n2 (hs₂.extBut b o n1 e)
  obtain ⟨kk, eD⟩ := hl
  have gne : ∀ {b : Addr} {o : Obj}, s₁.heap.get? b = some o → b ≠ C := fun e q => by rw [q, hC] at e; cases e
  refine k D h3 _ ys kk ⟨hn₂.sameBut hs3 nLC, fun b o e => ?_, F.above⟩ (fun p hp => ?_) hD hys (hJ _ fun b o nb e => k3 b o (fun q => nb (q ▸ hYZ _ (.head _))) (fun q => nb (q ▸ hCZ)) e) fun b o nb e => ?_
  · have e1 := F.keep b o e
    exact k3 b o (Nat.ne_of_lt (Nat.lt_of_lt_of_le (Heap.lt_size e) F.above)) (gne e1) (hK b o (fun hm => by rw [hMg b hm] at e; cases e) e1)
  · rcases List.mem_cons.mp hp with rfl | hp
    · refine ⟨k3 _ _ (Ne.symm nLD) hDC eD, Ne.symm nLD, ?_⟩
      cases q : g.get? D with
      | none => rfl
      | some o => rw [F.keep D o q] at hD; cases hD
    · have z := N p hp
      exact ⟨k3 _ _ z.2.1 (gne z.1) (hK _ _ (hMn p hp) z.1), z.2⟩
  · exact k3 b o (fun q => nb (q ▸ .head _)) (gne e) (hK b o (fun hm => nb (.tail _ hm)) e)
end
end Mine
end
section
theorem Mine.topOffNuRow : True := by
  w_top off
  k_with_none
  trivial
set_option linter.all false
open PySem PySem.W PyProof.Rows PySem.Calls PyProof.V PySem.Spec
set_option maxRecDepth 100000
namespace Mine
noncomputable abbrev rowEnv (scope : Scope) (cl : List (Str × Addr)) (x : Str) (C : Addr) (env : Env) : Env := compEnvC scope ((x, C + 1) :: cl) C env
noncomputable def EltsC (prog : Program) (w : World) (A : Around) (env : Env) (scope : Scope) (cl : List (Str × Addr)) (x : Str) (elt : Expr) (n : Nat) (F : Nat → Value → Prop) (s₁ : Shared) : Prop :=
  ∀ (C : Addr) (i : Nat) (t : Tok) (s₃ : Shared) (m₃ : Str → Option Value) (E' : Value → Shared → Prop), i < n → s₃.heap.Ns C m₃ → (∃ o, s₃.heap.get? (C + 1) = some o ∧ o.data = .cell (some (.int (i : Int) t))) → s₁.heap.StaysIn s₃.heap →
    wpAny (model prog w) A (eval elt (rowEnv scope cl x C env)) (fun y s₄ => Stop (F i y ∧ Keeps s₃ s₄)) E' s₃
section
variable {prog : Program} {w : World} {A : Around} {E : Value → Shared → Prop} {s : Shared}
theorem new_block {M : Model} {scope : Scope} {cl : List (Str × Addr)} {env : Env} {Q : Env → Shared → Prop}
    (h : Q { scope := scope, locals := s.heap.objs.size, globals := env.globals, cells := cellsFrom (s.heap.objs.size + 1) scope.names cl, qual := env.qual, func := none, code := env.code, frame := env.frame, builtins := env.builtins } { s with heap := pushCells (s.heap.push { cls := .type "dict", data := .dict #[] }) scope.names }) :
    wpAny M A (newFunctionEnv scope env.globals cl [] env.qual none .none (some env)) Q E s := by
  simp only [newFunctionEnv, Option.isSome_some, if_true]
  refine wpAny_bind (wpAny_alloc ?_)
  refine wpAny_bind (wpAny_layCells _ (fun name kind cells => by cases hkc : kind == NameKind.cell <;> simp [hkc]) _ _ _ _ ?_)
  rw [show ({ s with heap := s.heap.push { cls := .type "dict", data := .dict #[] } } : Shared).heap.objs.size = s.heap.objs.size + 1 from Heap.size_push ..]
  rw [List.forIn_nil]
  exact wpAny_bind (wpAny_pure (wpAny_pure h))
inductive RowI (s : Shared) (cl : Addr) (I D CC : Addr) (n : Nat) (F : Nat → Value → Prop) (k : Nat) (s' : Shared) : Prop
  | mk : ∀ h' tk m' ys i, (s' = { s with heap := h', toks := tk }) → (IsRangeIter h' I (0 + (i : Nat) * 1) ((n : Int) - (i : Nat)) 1) → (h'.PlainList D ys) → (h'.Ns cl m') → ((∃ o v, h'.get? CC = some o ∧ o.data = .cell v)) → (ys.size = i) → (i ≤ n) → (k = n + 1 - i) → ((∀ j y, ys.toList[j]? = some y → F j y)) → (Keep [I, D, cl, CC] s.heap h') → RowI s cl I D CC n F k s'
theorem row_loop {R : Result → Shared → Prop} {elt iter : Expr} {x : Str} {px : Pos} {scope : Scope} {pos : Pos} {I D CC : Addr} {n : Nat} {cenv : Env} {m : Str → Option Value} (F : Nat → Value → Prop)
    (W : Walks prog w A I [I] [I] n (fun i v => ∃ t, v = .int (0 + (i : Int) * 1) t) (fun i h => IsRangeIter h I (0 + (i : Nat) * 1) ((n : Int) - (i : Nat)) 1))
    (hk : cenv.scope.kind = .function) (hx : cenv.kindOf x = some .cell) (hc : cenv.cells.lookup x = some CC)
    (hDC : D ≠ cenv.locals) (hDI : D ≠ I) (hCI : cenv.locals ≠ I) (hKI : CC ≠ I) (hKD : CC ≠ D) (hKC : CC ≠ cenv.locals)
    (hst : IsRangeIter s.heap I (0 + ((0 : Nat) : Int) * 1) ((n : Int) - ((0 : Nat) : Int)) 1) (hacc : s.heap.PlainList D #[]) (hn : s.heap.Ns cenv.locals m) (hcell : ∃ o v, s.heap.get? CC = some o ∧ o.data = .cell v)
    (helt : ∀ i t s₂ m₂ E', i < n → s₂.heap.Ns cenv.locals m₂ → (∃ o, s₂.heap.get? CC = some o ∧ o.data = .cell (some (.int (i : Int) t))) → Keep [I, D, cenv.locals, CC] s.heap s₂.heap →
      wpAny (model prog w) A (eval elt cenv) (fun y s₃ => F i y ∧ Keeps s₂ s₃) E' s₂)
    (hR : ∀ h' tk m' ys, h'.Ns cenv.locals m' → h'.PlainList D ys → ys.size = n → (∀ j y, ys.toList[j]? = some y → F j y) → Keep [I, D, cenv.locals, CC] s.heap h' → R (.ok .next) { s with heap := h', toks := tk })
    (hsz : n ≤ sizeLine) :
    codeAny (model prog w) A (.compLoop (.ListComp elt [⟨.Name x px, iter, [], 0⟩] scope pos) 0 (.ref I) (.ref D) cenv) R s := by
  have out : ∀ {b : Addr}, b ∉ [I, D, cenv.locals, CC] → b ≠ I ∧ b ≠ D ∧ b ≠ cenv.locals ∧ b ≠ CC := fun {b} h => ⟨fun q => h (q ▸ .head _), fun q => h (q ▸ .tail _ (.head _)), fun q => h (q ▸ .tail _ (.tail _ (.head _))), fun q => h (q ▸ .tail _ (.tail _ (.tail _ (.head _))))⟩
  refine codeAny_compLoop_tests
    (RowI s cenv.locals I D CC n F) ?_ (n + 1)
    ⟨s.heap, s.toks, m, #[], 0, rfl, hst, hacc, hn, hcell, rfl, Nat.zero_le _, rfl, (fun j y e => by cases e), fun _ _ _ e => e⟩
  rintro k s' ⟨H, tk, m', ys, i, rfl, hst', hacc', hn', ⟨co, cv, eco, hco⟩, hys, hi, rfl, hF, hk'⟩
  by_cases hlt : i < n
  · refine W.item i _ _ _ hlt hst' fun v h₁ tk₁ hPv hst₁ hk₁ => ?_
    obtain ⟨t, rfl⟩ := hPv
    have e0 : (0 : Int) + (i : Int) * 1 = (i : Int) := by omega
    rw [e0]
    have k1 : ∀ b o, b ≠ I → H.get? b = some o → h₁.get? b = some o := fun b o nb e => hk₁ b o (fun q => nb (List.mem_singleton.mp q)) e
    refine wpAny_assign_Name (wpAny_storeName_cell hk hx hc ⟨co, k1 _ _ hKI eco, hco⟩ fun h₂ hv₂ hs₂ => ?_)
    have k2 : ∀ b o, b ≠ I → b ≠ CC → H.get? b = some o → h₂.get? b = some o := fun b o n1 n2 e => hs₂.extBut b o n2 (k1 b o n1 e)
    have hn₂ : h₂.Ns cenv.locals m' := hn'.at' fun o e => k2 _ o hCI (Ne.symm hKC) e
    have hst₂ : IsRangeIter h₂ I (0 + ((i + 1 : Nat) : Int) * 1) ((n : Int) - ((i + 1 : Nat) : Int)) 1 := hs₂.extBut _ _ (Ne.symm hKI) hst₁
    have hacc₂ : h₂.PlainList D ys := hacc'.at fun o e => k2 D o hDI (Ne.symm hKD) e
    refine wpAny_tests_nil ?_
    simp only [if_true]
    obtain ⟨co2, eco2, hco2⟩ := hv₂
    refine wpAny_mono (helt i t { s with heap := h₂, toks := tk₁ } m' _ hlt hn₂ ⟨co2, eco2, hco2⟩ (fun b o nb e => k2 b o (out nb).1 (out nb).2.2.2 (hk' b o nb e))) (fun y s₄ h₄ => ?_) fun _ _ e => e
    obtain ⟨hFy, h₄, tk₄, rfl, K₄⟩ := h₄
    have hys2 : ys.size ≤ sizeLine := by omega
    refine wpAny_list_append_plain (hsz := hys2) (hacc₂.at fun o e => K₄ _ o e) fun h₅ hl₅ hs₅ => ?_
    refine ⟨n + 1 - (i + 1), by omega, h₅, tk₄, _, ys.push y, i + 1, rfl, hs₅.extBut _ _ (Ne.symm hDI) (K₄ _ _ hst₂), hl₅, (hn₂.keeps K₄).sameBut hs₅ (Ne.symm hDC), ⟨co2, _, hs₅.extBut _ _ hKD (K₄ _ _ eco2), hco2⟩, by rw [Array.size_push, hys], hlt, rfl, fun j u hj => ?_, fun b o nb e => ?_⟩
    · rw [Array.toList_push] at hj
      rcases Nat.lt_trichotomy j ys.toList.length with h | h | h
      · rw [List.getElem?_append_left h] at hj; exact hF j u hj
      · subst h
        simp at hj
        subst hj
        rw [Array.length_toList, hys]; exact hFy
      · rw [List.getElem?_eq_none (by rw [List.length_append, List.length_singleton]; omega)] at hj; cases hj
    · exact hs₅.extBut b o (out nb).2.1 (K₄ b o (k2 b o (out nb).1 (out nb).2.2.2 (hk' b o nb e)))
  · have hin : i = n := by omega
    subst hin
    refine W.done _ _ _ hst' fun h₁ tk₁ hk₁ => ?_
    have k1 : ∀ b o, b ≠ I → H.get? b = some o → h₁.get? b = some o := fun b o nb e => hk₁ b o (fun q => nb (List.mem_singleton.mp q)) e
    exact hR h₁ tk₁ m' ys (hn'.at' fun o e => k1 _ o hCI e) (hacc'.at fun o e => k1 _ o hDI e) hys hF fun b o nb e => k1 b o (out nb).1 (hk' b o nb e)
theorem asg_row {g : Heap} {L : Addr} {env : Env} {elt iter : Expr} {x y : Str} {px py : Pos} {scope : Scope} {cl : List (Str × Addr)} {pos spos : Pos} {Q : Flow → Shared → Prop}
    (hsw : swapsWith (.ListComp elt [⟨.Name x px, iter, [], 0⟩] scope pos) (some (.Name y py)) spos.line env = pure true)
    (hclos : closureFor scope env = pure cl) (hkind : scope.kind = .function)
    (hnames : ∀ y ∈ scope.names, y.2 = .local → scope.names.lookup y.1 = some .local)
    (hone : ∀ n, cellsFrom n scope.names cl = (x, n) :: cl) (hpush : ∀ h, pushCells h scope.names = h.push { cls := .type "cell", data := .cell none })
    (hxk : ∀ C, (rowEnv scope cl x C env).kindOf x = some .cell)
    (hy : env.kindOf y = some .local) (hp : (env.scope.kind == .class || (env.scope.kind == .module && env.locals != env.globals)) = false) (hL : env.locals = L) (hh : A.handled = none)
    (h : wpAny (model prog w) A (eval iter env) (fun xv s₁ => Stop (∃ (r : Addr) (b : Int) (t u v : Tok) (n : Nat) (F : Nat → Value → Prop) (m : Str → Option Value) (news : List (Addr × Obj)), xv = .ref r ∧ IsRange s₁.heap r 0 b 1 t u v ∧ Builtin.Range.small 0 b 1 = true ∧ Builtin.Range.rangeSize 0 b 1 = (n : Int) ∧ n ≤ sizeLine ∧
      Fr g L s₁.heap m ∧ News g L s₁.heap news ∧ EltsC prog w A env scope cl x elt n F s₁ ∧
      (∀ D h' tk (ys : List Value) kk, Fr g L h' (fun z => if z = y then some (.ref D) else m z) → News g L h' ((D, listOf ys.toArray kk) :: news) → s₁.heap.get? D = none → ys.length = n → (∀ j u, ys[j]? = some u → F j u) → (∀ b o, b ≠ L → s₁.heap.get? b = some o → h'.get? b = some o) → Q .next { s₁ with heap := h', toks := tk }))) E s)
    (hs : ∀ x, foldedSetIterable iter env x = pure x) :
    wpAny (model prog w) A (exec (.Assign [.Name y py] (.ListComp elt [⟨.Name x px, iter, [], 0⟩] scope pos) spos) env) Q E s := by
  subst hL
  rw [exec_Assign_Name_used _ _ _ _ hsw]
  refine wpAny_bind (wpAny_standAt (wpAny_bind ?_))
  show wpAny _ A (do let _ ← comprehension (.ListComp elt [⟨.Name x px, iter, [], 0⟩] scope pos) scope env _ (newList []) false (eval iter env) (some (assign (.Name y py) env))) _ _ s
  refine wpAny_bind (wpAny_mono (wpAny_comprehension_free (use := some (assign (.Name y py) env)) (Q := fun _ s' => Q .next s') rfl hs hclos hkind hnames
    (wpAny_mono h (fun xv s₁ h₁ => ?_) fun _ _ e => e)) (fun _ s' hq => wpAny_pure (wpAny_pure hq)) fun _ _ e => e)
  obtain ⟨r, b, t, u, v, n, F, m, news, rfl, hr, hsmall, hn, hsz, Fm, N, hE, hQ⟩ := h₁
  refine wpAny_pyIter_range hr hsmall ?_
  have W := Walks.range (prog := prog) (w := w) hh s₁.heap.objs.size 0 1 n
  generalize ho : ({ cls := .type "range_iterator", dict := none, data := .fields #[rawInt 0, rawInt (Builtin.Range.rangeSize 0 b 1), rawInt 1], slots := #[] } : Obj) = o
  refine wpAny_newObj_type ?_
  dsimp only
  generalize hH : (s₁.heap.push o).push { cls := .type "list", dict := none, data := .seq ([] : List Value).toArray } = H
  have sz : H.objs.size = s₁.heap.objs.size + 1 + 1 := by rw [← hH, Heap.size_push, Heap.size_push]
  have szD : (s₁.heap.push o).objs.size = s₁.heap.objs.size + 1 := Heap.size_push ..
  refine new_block ?_
  dsimp only
  rw [hone, hpush]
  generalize hK : (H.push { cls := .type "dict", data := .dict #[] }).push { cls := .type "cell", data := .cell none } = K
  have up : ∀ b ob, s₁.heap.get? b = some ob → K.get? b = some ob := fun b ob e => hK ▸ Heap.get?_push_of_some _ (Heap.get?_push_of_some _ (hH ▸ Heap.get?_push_of_some _ (Heap.get?_push_of_some _ e)))
  have fresh : ∀ a, s₁.heap.objs.size ≤ a → s₁.heap.get? a = none := fun a ha => by
    cases e : s₁.heap.get? a with
    | none => rfl
    | some o' => exact absurd (Heap.lt_size e) (Nat.not_lt.mpr ha)
  have nsC : K.Ns H.objs.size (fun _ => none) := (hK ▸ (Heap.Ns.new H (.type "dict")).keeps fun b ob e => Heap.get?_push_of_some _ e)
  have itI : IsRangeIter K s₁.heap.objs.size (0 + ((0 : Nat) : Int) * 1) ((n : Int) - ((0 : Nat) : Int)) 1 := by
    have e1 : (s₁.heap.push o).get? s₁.heap.objs.size = some o := Heap.get?_push_size _ (by rw [← ho]; rfl)
    have e2 : K.get? s₁.heap.objs.size = some o := hK ▸ Heap.get?_push_of_some _ (Heap.get?_push_of_some _ (hH ▸ Heap.get?_push_of_some _ e1))
    show K.get? _ = _
    rw [e2, ← ho, hn]
    simp
  have lD : K.PlainList (s₁.heap.push o).objs.size #[] := ⟨_, hK ▸ Heap.get?_push_of_some _ (Heap.get?_push_of_some _ (hH ▸ Heap.get?_push_size _ rfl))⟩
  have cC : K.get? (H.objs.size + 1) = some { cls := .type "cell", data := .cell none } := by
    have : (H.push { cls := .type "dict", data := .dict #[] }).objs.size = H.objs.size + 1 := Heap.size_push ..
    rw [← this, ← hK]; exact Heap.get?_push_size _ rfl
  have ne : ∀ {p q : Nat}, p < q → q ≠ p := fun h => Nat.ne_of_gt h
  have Lt := Fm.ns.lt
  obtain ⟨oL, es, ep, eL, rL⟩ := id Fm.ns
  have loop : ∀ s₃ : Shared, s₃ = { s₁ with heap := K } →
      codeAny (model prog w) A (.compLoop (.ListComp elt [⟨.Name x px, iter, [], 0⟩] scope pos) 0 (.ref s₁.heap.objs.size) (.ref (s₁.heap.push o).objs.size) (rowEnv scope cl x H.objs.size env))
        (compPost (model prog w) A E (some (assign (.Name y py) env)) (fun _ s' => Q .next s') (.ref (s₁.heap.push o).objs.size) H.objs.size) s₃ := by
    rintro s₃ rfl
    refine row_loop (cenv := rowEnv scope cl x H.objs.size env) (CC := H.objs.size + 1) F W (by simp [compEnvC, relabel, hkind]) (hxk _) (by show List.lookup x ((x, H.objs.size + 1) :: cl) = _; simp) ?_ ?_ ?_ ?_ ?_ ?_ itI lD nsC ⟨_, _, cC, rfl⟩ ?_ ?_ hsz
    · show (s₁.heap.push o).objs.size ≠ H.objs.size; rw [sz, szD]; exact Nat.ne_of_lt (Nat.lt_succ_self _)
    · rw [szD]; exact ne (Nat.lt_succ_self _)
    · show H.objs.size ≠ _; rw [sz]; exact ne (Nat.lt_succ_of_lt (Nat.lt_succ_self _))
    · rw [sz]; exact ne (Nat.lt_succ_of_lt (Nat.lt_succ_of_lt (Nat.lt_succ_self _)))
    · rw [sz, szD]; exact ne (Nat.lt_succ_of_lt (Nat.lt_succ_self _))
    · show _ ≠ H.objs.size; exact ne (Nat.lt_succ_self _)
    · intro i t' s₂ m₂ E' hi hns hcell K2
      refine hE _ i t' s₂ m₂ E' hi hns hcell fun b ob e => K2 b ob (fun hm => ?_) (up b ob e)
      have hb := Heap.lt_size e
      simp only [List.mem_cons, List.not_mem_nil, or_false] at hm
      rcases hm with q | q | q | q
      · exact absurd hb (by rw [q]; exact Nat.lt_irrefl _)
      · rw [q, szD] at hb; exact absurd hb (Nat.not_lt.mpr (Nat.le_succ _))
      · have q' : b = H.objs.size := q
        rw [q', sz] at hb; exact absurd hb (Nat.not_lt.mpr (Nat.le_succ_of_le (Nat.le_succ _)))
      · rw [q, sz] at hb; exact absurd hb (Nat.not_lt.mpr (Nat.le_succ_of_le (Nat.le_succ_of_le (Nat.le_succ _))))
    · intro h' tk m' ys hns hl hys hF K2
      have old : ∀ b ob, s₁.heap.get? b = some ob → h'.get? b = some ob := fun b ob e => K2 b ob (fun hm => by
        have hb := Heap.lt_size e
        simp only [List.mem_cons, List.not_mem_nil, or_false] at hm
        rcases hm with q | q | q | q
        · exact absurd hb (by rw [q]; exact Nat.lt_irrefl _)
        · rw [q, szD] at hb; exact absurd hb (Nat.not_lt.mpr (Nat.le_succ _))
        · have q' : b = H.objs.size := q
          rw [q', sz] at hb; exact absurd hb (Nat.not_lt.mpr (Nat.le_succ_of_le (Nat.le_succ _)))
        · rw [q, sz] at hb; exact absurd hb (Nat.not_lt.mpr (Nat.le_succ_of_le (Nat.le_succ_of_le (Nat.le_succ _))))) (up b ob e)
      have fD : s₁.heap.get? (s₁.heap.push o).objs.size = none := fresh _ (by rw [szD]; exact Nat.le_succ _)
      have nLC : env.locals ≠ H.objs.size := fun q => by rw [q, fresh H.objs.size (by rw [sz]; exact Nat.le_succ_of_le (Nat.le_succ _))] at eL; cases eL
      have nLD : env.locals ≠ (s₁.heap.push o).objs.size := fun q => by rw [q, fD] at eL; cases eL
      have nDC : (s₁.heap.push o).objs.size ≠ H.objs.size := by rw [sz, szD]; exact Nat.ne_of_lt (Nat.lt_succ_self _)
      have F' : h'.Ns env.locals m := Fm.ns.at' fun o e => old _ o e
      show wpAny _ A (assign (.Name y py) env (.ref (s₁.heap.push o).objs.size)) _ _ _
      refine wpAny_assign_Name (wpAny_storeName_local hy F' (fun h₂ hn₂ hs₂ => ⟨m', hns.sameBut hs₂ (Ne.symm nLC), fun h3 hs3 => ?_⟩) hp)
      have k3 : ∀ b o, b ≠ env.locals → b ≠ H.objs.size → h'.get? b = some o → h3.get? b = some o := fun b o n1 n2 e => hs3.extBut b o n2 (hs₂.extBut b o n1 e)
      have oldC : ∀ {b : Addr} {ob : Obj}, s₁.heap.get? b = some ob → b ≠ H.objs.size := fun e q => by rw [q, fresh H.objs.size (by rw [sz]; exact Nat.le_succ_of_le (Nat.le_succ _))] at e; cases e
      obtain ⟨kk, eD⟩ := hl
      refine hQ (s₁.heap.push o).objs.size h3 _ ys.toList kk ⟨hn₂.sameBut hs3 nLC, fun b ob e => ?_, Fm.above⟩ (fun p hp => ?_) fD (by rw [Array.length_toList]; exact hys) hF fun b ob nb e => k3 b ob nb (oldC e) (old b ob e)
      · have e1 := Fm.keep b ob e
        exact k3 b ob (Nat.ne_of_lt (Nat.lt_of_lt_of_le (Heap.lt_size e) Fm.above)) (oldC e1) (old b ob e1)
      · rcases List.mem_cons.mp hp with rfl | hp
        · refine ⟨k3 _ _ (Ne.symm nLD) nDC (by rw [Array.toArray_toList]; exact eD), Ne.symm nLD, ?_⟩
          cases q : g.get? (s₁.heap.push o).objs.size with
          | none => rfl
          | some o' => rw [Fm.keep _ o' q] at fD; cases fD
        · have z := N p hp
          exact ⟨k3 _ _ z.2.1 (oldC z.1) (old _ _ z.1), z.2⟩
  exact codeAny_compStart_list (loop _ rfl) (W.self 0 _ _ _ itI (loop _ rfl))
end
end Mine
end
section
theorem Mine.topOffNuLib : True := by
  w_top off
  k_with_none
  trivial
set_option linter.all false
open PySem PySem.W PyProof.Rows PySem.Calls PyProof.V PySem.Spec
set_option maxRecDepth 100000
namespace Mine
section
variable {M : Model} {A : Around} {E : Value → Shared → Prop} {s : Shared}
theorem execs_cut {st : Stmt} {rest : List Stmt} {env : Env} {Q : Flow → Shared → Prop} (Inv : Shared → Prop) (h1 : wpAny M A (exec st env) (fun f s' => Stop (f = .next ∧ Inv s')) E s) (h2 : ∀ s', Inv s' → wpAny M A (execs rest env) Q E s') :
    wpAny M A (execs (st :: rest) env) Q E s := by
  refine wpAny_execs_cons (wpAny_mono h1 (fun f s' h => ?_) fun _ _ e => e)
  obtain ⟨rfl, hI⟩ := h
  exact h2 s' hI
end
/-- all else of a heap, as a tail of the ledger -/
noncomputable def restOf (g h : Heap) (X : List Addr) : List (Addr × Obj) := (List.range h.objs.size).filterMap fun b => if b ∈ X then none else if (g.get? b).isSome then none else (h.get? b).map (b, ·)
theorem mem_rest {g h : Heap} {X : List Addr} {b : Addr} {o : Obj} : (b, o) ∈ restOf g h X ↔ h.get? b = some o ∧ b ∉ X ∧ g.get? b = none := by
  unfold restOf
  rw [List.mem_filterMap]
  constructor
  · rintro ⟨c, hc, e⟩
    split at e
    · cases e
    · rename_i nX
      split at e
      · cases e
      · rename_i ng
        obtain ⟨o', ho, q⟩ := Option.map_eq_some_iff.mp e
        cases q
        refine ⟨ho, nX, ?_⟩
        cases q : g.get? b with
        | none => rfl
        | some o'' => rw [q] at ng; exact absurd rfl ng
  · rintro ⟨h1, h2, h3⟩
    refine ⟨b, List.mem_range.mpr (Heap.lt_size h1), ?_⟩
    rw [if_neg h2, h3, h1]; rfl
theorem openR {g h : Heap} {L : Addr} {m : Str → Option Value} {led : List (Addr × Obj)} (F : Fr g L h m) (N : News g L h led) : ∃ R, News g L h (led ++ R) ∧ (∀ p ∈ R, p.1 ∉ led.map (·.1)) ∧
    (∀ b o, h.get? b = some o → b ≠ L → b ∉ led.map (·.1) → g.get? b = none → (b, o) ∈ R) ∧ ∀ h2 m2, Fr g L h2 m2 → News g L h2 R → Keep (L :: led.map (·.1)) h h2 := by
  refine ⟨restOf g h (L :: led.map (·.1)), fun p hp => ?_, fun p hp hm => ?_, fun b o e n1 n2 n3 => mem_rest.mpr ⟨e, ?_, n3⟩, fun h2 m2 F2 N2 b o nb e => ?_⟩
  · rcases List.mem_append.mp hp with hp | hp
    · exact N p hp
    · obtain ⟨b, o⟩ := p
      obtain ⟨h1, h2, h3⟩ := mem_rest.mp hp
      exact ⟨h1, fun q => h2 (q ▸ .head _), h3⟩
  · obtain ⟨b, o⟩ := p
    exact (mem_rest.mp hp).2.1 (.tail _ hm)
  · intro hm
    rcases List.mem_cons.mp hm with q | hm
    · exact n1 q
    · exact n2 hm
  · cases q : g.get? b with
    | some o' =>
      have e1 := F.keep b o' q
      rw [e] at e1; cases e1
      exact F2.keep b o q
    | none => exact (N2 (b, o) (mem_rest.mpr ⟨e, nb, q⟩)).1
/-- a call that changed none of the ledger's own objects -/
theorem after {g h h' : Heap} {L : Addr} {m : Str → Option Value} {led : List (Addr × Obj)} {M : List Addr} (F : Fr g L h m) (N : News g L h led) (K : Keep M h h') (hg : ∀ b ∈ M, g.get? b = none) (hL : L ∉ M) (hn : ∀ p ∈ led, p.1 ∉ M) :
    Fr g L h' m ∧ News g L h' led :=
  ⟨⟨F.ns.at' fun o e => K _ o hL e, fun b o e => K b o (fun hm => by rw [hg b hm] at e; cases e) (F.keep b o e), F.above⟩, fun p hp => ⟨K _ _ (hn p hp) (N p hp).1, (N p hp).2⟩⟩

/-- the feed of the law -/
noncomputable def Feed (w : World) (h : Heap) (fd lc : Addr) (k : Int) : Prop := ∃ o cvs cz t, h.get? fd = some o ∧ o.IsDictOf (PySem.strKind PySem.Challenge.rw_nu0266_01.row.prog w) [(Str.ofString "cells", .ref lc), (Str.ofString "spot", .int k t)] ∧ h.IsList lc cvs ∧ IntsAre cvs.toList cz ∧ cz.length ≤ 60
noncomputable def NoSeq (h : Heap) (Z : List Addr) : Prop := ∀ z ∈ Z, ∀ o, h.get? z = some o → ∀ items k, o.data ≠ .seq items k
theorem Feed.keep {w : World} {h h' : Heap} {fd lc : Addr} {k : Int} {Z : List Addr} (K : Keep Z h h') (n1 : fd ∉ Z) (n2 : lc ∉ Z) (f : Feed w h fd lc k) : Feed w h' fd lc k :=
  let ⟨o, cvs, cz, t, e, d, l, i, n⟩ := f; ⟨o, cvs, cz, t, K _ _ n1 e, d, keep_list K n2 l, i, n⟩
theorem news_cut2 {g h : Heap} {L : Addr} {a b : Addr × Obj} {r : List (Addr × Obj)} (N : News g L h (a :: b :: r)) : News g L h (a :: r) := fun p hp => by
  rcases List.mem_cons.mp hp with rfl | hp
  · exact N _ (.head _)
  · exact N _ (.tail _ (.tail _ hp))
theorem news_sub {g h : Heap} {L : Addr} {l r : List (Addr × Obj)} (N : News g L h l) (k : ∀ p ∈ r, p ∈ l) : News g L h r := fun p hp => N p (k p hp)
end Mine
end
section
set_option linter.all false
open PySem PySem.W PyProof.Rows PySem.Calls PyProof.V PySem.Spec
set_option maxRecDepth 100000
namespace Mine
theorem wordsNuNew : True := by
  w_top off
  k_with_none
  k_with "call ref" => (k_here; (with_reducible show wpAny _ _ (call (Value.ref 164) [Value.ref _, Value.int _ _]) _ _ _); k_dflt (refine' next_K ?F ?N ?X ?T ?U ?dp ?un ?d ?k0 ?k1 ?w ?w2 ?c ?i ?ns ?ca ?_; (case F => k_asm); (case N => k_asm); (case X => k_asm); (case T => k_asm); (case U => k_updF); (case dp => omega); (case un => omega); (case d => k_asm); (case c => is_list); (case i => assumption); (case k0 => omega); (case k1 => omega); (case w => omega); (case w2 => omega); (case ns => assumption); (case ca => assumption)); intro h'ω o'ω r'ω tr'ω tk'ω tq'ω F'ω N'ω d'ω r0'ω r1'ω kp'ω; (try dsimp only at N'ω))
  k_with "call builtin:len" => (k_here; (with_reducible show wpAny _ _ (call (Value.builtin "len") [Value.ref _]) _ _ _); k_dflt (refine' len_G ?l ?z ?_; (case l => is_list); (case z => omega)))
  k_with "subscriptTail" => (k_here; (with_reducible show wpAny _ _ (subscriptTail _ _ (Value.ref _) (Value.int _ _)) _ _ _); k_dflt (refine' item_G ?l ?k0 ?k1 ?z ?_ ?hs; (case l => is_list); (case k0 => first | assumption | omega); (case k1 => first | assumption | omega); (case z => first | assumption | omega); (case hs => with_unfolding_all rfl)); intro v'ω hv'ω)
  k_with "eval ListComp" => (k_here; refine stop_intro ?_)
  k_with "eval Name" => (k_dflt (refine' name_loc ?n ?v ?k ?l ?d ?_; (case n => assumption); (case v => assumption); (case k => exact rfl); (case l => exact rfl); (case d => decide)))
  k_with "subscriptTail" => (k_here; (with_reducible show wpAny _ _ (subscriptTail _ _ (Value.ref _) (Value.int _ _)) _ _ _); k_dflt (refine' item_bools ?l ?k0 ?k1 ?z ?_ ?hs; (case l => is_list); (case k0 => first | assumption | omega); (case k1 => first | assumption | omega); (case z => first | assumption | omega); (case hs => with_unfolding_all rfl)))
  k_with "compareOp In" => (k_here; (with_reducible show wpAny _ _ (compareOp CmpOp.In (Value.bool _) (Value.ref _)) _ _ _); k_dflt (refine' in_bools ?l ?_; (case l => is_list)))
  k_with "compareOp NotIn" => (k_here; (with_reducible show wpAny _ _ (compareOp CmpOp.NotIn (Value.bool _) (Value.ref _)) _ _ _); k_dflt (refine' notin_bools ?l ?_; (case l => is_list)))
  k_with "exec For" => (k_here; refine stop_intro ?_)
  k_with "exec For Name Call cons nil" => (k_here; refine stop_intro ?_)
  k_with "exec For Name Name cons nil" => (k_here; refine stop_intro ?_)
  k_with "exec For Tuple Name cons nil" => (k_here; refine stop_intro ?_)
  k_with "exec For Name Attribute cons nil" => (k_here; refine stop_intro ?_)
  k_with "setItem ref int" => (k_here; k_dflt (refine' kda_set (knd := PySem.intKind _ _) ?F ?N ?U ?d (intKind_is _ _ _ _) ?z ?_; (case F => k_asm); (case N => k_asm); (case U => k_updF); (case d => k_asm); (case z => (rw [sizeLine_eq]; omega))); intro h'ω o'ω F'ω N'ω hd'ω; (try dsimp only at N'ω))
  k_with "call builtin:len" => (k_here; (with_reducible show wpAny _ _ (call (Value.builtin "len") [Value.ref _]) _ _ _); k_dflt (refine' len_A ?l ?z ?_; (case l => is_list); (case z => (simp only [Array.size_push, List.size_toArray]; omega))))
  k_with "compareOp In" => (k_here; (with_reducible show wpAny _ _ (compareOp CmpOp.In (Value.int _ _) (Value.ref _)) _ _ _); k_dflt (refine' kda_in (knd := PySem.intKind _ _) ?N ?mem ?hd ?lo (intKind_is _ _ _ _) _ rfl ?_; (case N => k_asm); (case mem => k_mem); (case hd => k_asm); (case lo => assumption)))
  k_with "newTuple" => (k_here; k_dflt (refine' newTuple_S ?F ?N ?_ ?z; (case F => k_asm); (case N => k_asm); (case z => kmk_size)); intro D'ω h'ω St'ω F'ω N'ω l1ω; (try k_lt l1ω))
  trivial
section
variable {w : World} {mean : ExcName → Option Value} {mg mb : Str → Option Value} {hs : Heap} {dp un : Nat} {fr : Option (List Env)} {gd : Option (List Code)} {s : Shared} {Q E : Value → Shared → Prop} {R : Result → Shared → Prop}
theorem enterI {name qual : Str} {params : Arguments} {body : List Stmt} {scope : Scope} {dV kV doc pm cdv ct oc : Value} {an od : Option Addr} {osl : Array (Option Value)} {f : Addr} {args : List Value} {binds : List (Str × Value)} (mods : List (Addr × Obj)) (C : Ctx w mean mg mb hs) (S : hs.StaysIn s.heap)
    (ho : (Mine.kx.heap_1 w.params).lookup f = some ⟨oc, od, .func (fnOf name qual params body scope dV kV doc pm an cdv ct), osl⟩) (hcd : codeIn (Mine.kx.heap_1 w.params) cdv qual = true) (hroom : dp < recursionLimit)
    (hm : ∀ p ∈ mods, hs.get? p.1 = none) (hn : ∀ p ∈ mods, s.heap.get? p.1 = some p.2)
    (hbind : BindsTo s (fnOf name qual params body scope dV kV doc pm an cdv ct) ⟨args, []⟩ binds) (hcell : ∀ x ∈ scope.names, x.2 ≠ .cell) (hloc : ∀ x ∈ binds, scope.names.lookup x.1 = some .local)
    (h : ∀ g L' h₁ fr' tk, Keep (mods.map (·.1)) s.heap g → Fr g L' h₁ (fun x => binds.reverse.lookup x) → News g L' h₁ mods → (Mine.kx.heap_1 w.params).In g → Top Mine.vw [] mean mg mb g → hs.StaysIn g →
      (∀ a o, g.get? a = some o → s.heap.get? a = some o) → g.objs.size = s.heap.objs.size →
      wpAny (model PySem.Challenge.rw_nu0266_01.row.prog w) (At (dp + 1) (un + 3) fr' gd) (execs body (envOf qual scope L' f cdv)) (fun fl s' => R (.ok (.ret (match fl with | .ret v => v | _ => .none))) s') (fun _ _ => False) { s with heap := h₁, toks := tk })
    (hco : scope.isCoroutine = false) (hgen : scope.isGenerator = false) (hk : scope.kind = .function) :
    codeAny (model PySem.Challenge.rw_nu0266_01.row.prog w) (At dp un fr gd) (.call (.ref f) ⟨args, []⟩) R s := by
  have X := C.X
  have X' : (Mine.kx.heap_1 w.params).In s.heap := Frag.In.keeps X S
  refine codeAny_call_def (fd := fnOf name qual params body scope dV kV doc pm an cdv ct) hroom (X' _ _ ho) rfl ((C.T.nolimit).keeps S) (codeRec_of X' hcd) rfl hbind hcell hloc (fun h₁ hns hk₁ => ?_) hco hgen hk
  have st : hs.StaysIn (hideAll s.heap (mods.map (·.1))) := fun b o e => hideAll_get _ (S b o e) (fun q => by
    obtain ⟨p, hp, rfl⟩ := List.mem_map.mp q
    rw [hm p hp] at e; cases e)
  have st' : ∀ b o, hs.get? b = some o → (hideAll s.heap (mods.map (·.1))).get? b = some o := st
  have X2 := Frag.In.keeps X st'
  have T2 := C.T.keeps st'
  exact wpAny_mono (h (hideAll s.heap (mods.map (·.1))) s.heap.objs.size h₁ _ _ (fun a o na e => hideAll_get _ e na) ⟨hns, fun b o e => hk₁ b o (of_hideAll _ e), Nat.le_of_eq (hideAll_size _ _)⟩
    (fun p hp => ⟨hk₁ _ _ (hn p hp), Nat.ne_of_lt (Heap.lt_size (hn p hp)), hideAll_none _ (List.mem_map_of_mem hp)⟩) X2 T2 st (fun a o e => of_hideAll _ e) (hideAll_size _ _)) (fun fl s' hl => hl) (fun _ _ y => y.elim)
theorem dicth_nil {h : Heap} {d : Addr} {o : Obj} {K : Type} [DecidableEq K] {knd : KeyKind PySem.Challenge.rw_nu0266_01.row.prog w K} (e : h.get? d = some o) (x : o.IsDictOf knd []) : h.DictOfH (tupleKind (iK w)) d [] := by
  obtain ⟨es, ep, c, dt, _, ps, _⟩ := x
  refine ⟨o, es, ep, e, c, dt, ?_, fun y hy => (nomatch hy), .nil⟩
  generalize es.toList = l at ps
  cases ps; rfl
theorem circ_fin {g1 h9 : Heap} {L1 x dx d9 l9 l8 t1 t2 : Addr} {m9 : Str → Option Value} {o9 : Obj} {ka kb ta tb tc : Tok} (F9 : Fr g1 L1 h9 m9) (N9 : News g1 L1 h9 [(d9, o9), (l9, W.listOf #[.ref t1, .ref t2] 0), (t2, { cls := .type "tuple", data := .seq #[] }), (t1, { cls := .type "tuple", data := .seq #[] }),
    (l8, W.listOf #[.str (Str.ofString "") ka, .str (Str.ofString "true") kb] 0), (x, instObj 127 dx), (dx, circDict w.params ⟨x, dx, l8, l9, d9⟩ ta tb tc 3)]) (hi : o9.IsDictOf (PySem.intKind PySem.Challenge.rw_nu0266_01.row.prog w) []) (lo : (d9 == sysModules) = false) (_ : @Ne Nat x dx) (n1 : @Ne Nat l8 l9) (n2 : @Ne Nat dx d9) : IsCirc w h9 ⟨x, dx, l8, l9, d9⟩ [.junk, .tru] [] := by
  have at_ : ∀ {z o}, (z, o) ∈ _ → h9.get? z = some o := fun h => (N9 _ h).1
  refine ⟨⟨ta, tb, tc, 3, ⟨at_ (.tail _ (.tail _ (.tail _ (.tail _ (.tail _ (.head _)))))), rfl, rfl, at_ (.tail _ (.tail _ (.tail _ (.tail _ (.tail _ (.tail _ (.head _)))))))⟩⟩, ⟨_, 0, at_ (.tail _ (.tail _ (.tail _ (.tail _ (.head _))))), .cons _ _ (.cons _ _ .nil)⟩, ⟨_, 0, at_ (.tail _ (.head _)), ?_⟩, dicth_nil (at_ (.head _)) hi, n1, n2, lo⟩
  exact .cons ⟨_, rfl, _, #[], _, at_ (.tail _ (.tail _ (.tail _ (.head _)))), rfl, rfl, .nil⟩ (.cons ⟨_, rfl, _, #[], _, at_ (.tail _ (.tail _ (.head _))), rfl, rfl, .nil⟩ .nil)
set_option maxHeartbeats 1600000 in
theorem circ_K {g : Heap} {L : Addr} {m : Str → Option Value} {news : List (Addr × Obj)} (F : Fr g L s.heap m) (N : News g L s.heap news) (X : (Mine.kx.heap_1 w.params).In g) (T : Top Mine.vw [] mean mg mb g) (hdp : dp ≤ 600) (hun : un ≤ 8000)
   (hQ : ∀ h' a tk, Fr g L h' m → News g L h' news → (∀ b o, b ≠ L → s.heap.get? b = some o → h'.get? b = some o) → IsCirc w h' a [.junk, .tru] [] → (∀ z ∈ [a.ci, a.cd, a.ck, a.cp, a.cn], s.heap.get? z = none) → Q (.ref a.ci) { s with heap := h', toks := tk }) :
   wpAny (model PySem.Challenge.rw_nu0266_01.row.prog w) (At dp un fr gd) (call (.ref 127) []) Q E s := by
  have X0 := X
  revert X0
  k_fill
  intro X0
  obtain ⟨R, NR, _, Rall, Rk⟩ := openR F (news_sub N (r := []) fun p hp => nomatch hp)
  refine' call_cls F X NR ?h1 ?h2 ?h3 ?_
  case h1 => k_is
  case h2 => k_is
  case h3 => k_is
  intro x dx h0 F0 N0 lx1 lx2
  have fx : ∀ b o, b ≠ L → s.heap.get? b = some o → h0.get? b = some o := fun b o nb e => Rk h0 m F0 (news_sub N0 fun p hp => .tail _ (.tail _ hp)) b o (fun hm => nb (List.mem_singleton.mp hm)) e
  have fr0 : ∀ {z : Addr} {o : Obj}, h0.get? z = some o → z ≠ L → g.get? z = none → @LE.le Nat _ dx z → s.heap.get? z = none := fun {z o} e nL ng le => by
    cases q : s.heap.get? z with
    | none => rfl
    | some o' => exact absurd (lx1 _ (Rall z o' q nL (fun hm => nomatch hm) ng)) (Nat.not_lt.mpr le)
  have St0 : g.StaysIn h0 := F0.keep
  refine' enterI (hs := g) (binds := [(Str.ofString "self", .ref x)]) [(x, instObj 127 dx), (dx, dictOf [] 0)] ⟨X, T⟩ St0 ?ho ?hcd ?hr ?hm ?hn ?hbind ?hcell ?hloc ?_ ?hco ?hg ?hk
  case ho => k_is
  case hcd => k_is
  case hr => show dp + _ < _; exact Nat.lt_of_le_of_lt (by omega : dp + 1 ≤ 900) (by decide)
  case hm => exact List.forall_mem_cons.mpr ⟨(N0 _ (.head _)).2.2, List.forall_mem_cons.mpr ⟨(N0 _ (.tail _ (.head _))).2.2, List.forall_mem_nil _⟩⟩
  case hn => exact List.forall_mem_cons.mpr ⟨(N0 _ (.head _)).1, List.forall_mem_cons.mpr ⟨(N0 _ (.tail _ (.head _))).1, List.forall_mem_nil _⟩⟩
  case hbind => exact BindsTo.of_eq rfl
  case hcell => decide
  case hloc => exact locs rfl
  case hco => exact rfl
  case hg => exact rfl
  case hk => exact rfl
  intro g1 L1 h1 fr1 tk1 K1 F1 N1 X1 T1 St1 Of1 Sz1
  have K1' : Keep [x, dx] h0 g1 := K1
  clear K1
  have nxd : @Ne Nat x dx := Nat.ne_of_gt lx2
  have zx := N0 _ (.head _)
  have zd := N0 _ (.tail _ (.head _))
  have sx := fr0 zx.1 zx.2.1 zx.2.2 (Nat.le_of_lt lx2)
  have sd := fr0 zd.1 zd.2.1 zd.2.2 (Nat.le_refl _)
  clear N0 NR
  k_steps
  rename Fr g1 _ _ _ => F9
  rename News g1 _ _ _ => N9
  rename Obj.IsDictOf (PySem.intKind _ _) _ _ => hi₀
  rename (_ == sysModules) = false => lo₀
  have new : ∀ z, g1.get? z = none → s.heap.get? z = none := fun z q => by
    by_cases zx' : z = x
    · rw [zx']; exact sx
    by_cases zd' : z = dx
    · rw [zd']; exact sd
    have off : z ∉ [x, dx] := fun hm => by
      rcases List.mem_cons.mp hm with h | hm
      · exact zx' h
      · exact zd' (List.mem_singleton.mp hm)
    by_cases zL : z = L
    · obtain ⟨o, _, _, e, _⟩ := F0.ns
      rw [← zL] at e
      rw [K1' z o off e] at q; cases q
    · cases e : s.heap.get? z with
      | none => rfl
      | some o => rw [K1' z o off (fx z o zL e)] at q; cases q
  have keep : ∀ b o, b ≠ x → b ≠ dx → h0.get? b = some o → _ := fun b o n1 n2 e => F9.keep b o (K1' b o (fun hm => by
      rcases List.mem_cons.mp hm with h | hm
      · exact n1 h
      · exact n2 (List.mem_singleton.mp hm)) e)
  have old : ∀ b o, s.heap.get? b = some o → b ≠ x ∧ b ≠ dx := fun b o e => ⟨fun q => by (rw [q, sx] at e; cases e), fun q => by (rw [q, sd] at e; cases e)⟩
  refine ⟨rfl, ?_⟩
  refine hQ _ ⟨x, dx, _, _, _⟩ _ ⟨F0.ns.at' fun o e => keep _ o (Ne.symm zx.2.1) (Ne.symm zd.2.1) e, fun b o e => keep b o (old _ _ (F.keep b o e)).1 (old _ _ (F.keep b o e)).2 (F0.keep b o e), F0.above⟩ (fun p hp => ?_) (fun b o nb e => keep b o (old _ _ e).1 (old _ _ e).2 (fx b o nb e)) (circ_fin F9 N9 hi₀ lo₀ nxd ?_ ?_) ?_
  · have q := N p hp
    exact ⟨keep _ _ (old _ _ q.1).1 (old _ _ q.1).2 (fx _ _ q.2.1 q.1), q.2⟩
  · show (_ : Nat) ≠ _; omega
  · show (_ : Nat) ≠ _; omega
  · refine List.forall_mem_cons.mpr ⟨sx, List.forall_mem_cons.mpr ⟨sd, List.forall_mem_cons.mpr ⟨new _ (N9 _ (.tail _ (.tail _ (.tail _ (.tail _ (.head _)))))).2.2, List.forall_mem_cons.mpr ⟨new _ (N9 _ (.tail _ (.head _))).2.2, List.forall_mem_cons.mpr ⟨new _ (N9 _ (.head _)).2.2, List.forall_mem_nil _⟩⟩⟩⟩⟩
set_option maxHeartbeats 1600000 in
theorem read_K {ci : Addr} {g : Heap} {L : Addr} {m : Str → Option Value} {news : List (Addr × Obj)} (F : Fr g L s.heap m) (N : News g L s.heap news) (X : (Mine.kx.heap_1 w.params).In g) (T : Top Mine.vw [] mean mg mb g) (hdp : dp ≤ 600) (hun : un ≤ 8000)
   (hQ : ∀ h' ri rd tk tc, s.heap.get? ri = none → s.heap.get? rd = none → Fr g L h' m → News g L h' news → (∀ b o, b ≠ L → s.heap.get? b = some o → h'.get? b = some o) → InstAt h' ri (instObj 153 rd) 153 (some (dictOf [⟨PyData.keyHash w.params (Str.ofString "circuit"), .str (Str.ofString "circuit") tc, .ref ci⟩] 1)) → Q (.ref ri) { s with heap := h', toks := tk }) :
   wpAny (model PySem.Challenge.rw_nu0266_01.row.prog w) (At dp un fr gd) (call (.ref 153) [.ref ci]) Q E s := by
  have X0 := X
  revert X0
  k_fill
  intro X0
  obtain ⟨R, NR, _, Rall, Rk⟩ := openR F (news_sub N (r := []) fun p hp => nomatch hp)
  refine' call_cls F X NR ?h1 ?h2 ?h3 ?_
  case h1 => k_is
  case h2 => k_is
  case h3 => k_is
  intro x dx h0 F0 N0 lx1 lx2
  have fx : ∀ b o, b ≠ L → s.heap.get? b = some o → h0.get? b = some o := fun b o nb e => Rk h0 m F0 (news_sub N0 fun p hp => .tail _ (.tail _ hp)) b o (fun hm => nb (List.mem_singleton.mp hm)) e
  have fr0 : ∀ {z : Addr} {o : Obj}, h0.get? z = some o → z ≠ L → g.get? z = none → @LE.le Nat _ dx z → s.heap.get? z = none := fun {z o} e nL ng le => by
    cases q : s.heap.get? z with
    | none => rfl
    | some o' => exact absurd (lx1 _ (Rall z o' q nL (fun hm => nomatch hm) ng)) (Nat.not_lt.mpr le)
  have St0 : g.StaysIn h0 := F0.keep
  refine' enterI (hs := g) (binds := [(Str.ofString "self", .ref x), (Str.ofString "circuit", .ref ci)]) [(x, instObj 153 dx), (dx, dictOf [] 0)] ⟨X, T⟩ St0 ?ho ?hcd ?hr ?hm ?hn ?hbind ?hcell ?hloc ?_ ?hco ?hg ?hk
  case ho => k_is
  case hcd => k_is
  case hr => show dp + _ < _; exact Nat.lt_of_le_of_lt (by omega : dp + 1 ≤ 900) (by decide)
  case hm => exact List.forall_mem_cons.mpr ⟨(N0 _ (.head _)).2.2, List.forall_mem_cons.mpr ⟨(N0 _ (.tail _ (.head _))).2.2, List.forall_mem_nil _⟩⟩
  case hn => exact List.forall_mem_cons.mpr ⟨(N0 _ (.head _)).1, List.forall_mem_cons.mpr ⟨(N0 _ (.tail _ (.head _))).1, List.forall_mem_nil _⟩⟩
  case hbind => exact BindsTo.of_eq rfl
  case hcell => decide
  case hloc => exact locs rfl
  case hco => exact rfl
  case hg => exact rfl
  case hk => exact rfl
  intro g1 L1 h1 fr1 tk1 K1 F1 N1 X1 T1 St1 Of1 Sz1
  have K1' : Keep [x, dx] h0 g1 := K1
  clear K1
  have nxd : @Ne Nat x dx := Nat.ne_of_gt lx2
  have zx := N0 _ (.head _)
  have zd := N0 _ (.tail _ (.head _))
  have sx := fr0 zx.1 zx.2.1 zx.2.2 (Nat.le_of_lt lx2)
  have sd := fr0 zd.1 zd.2.1 zd.2.2 (Nat.le_refl _)
  clear N0 NR
  k_steps
  rename Fr g1 _ _ _ => F9
  rename News g1 _ _ _ => N9
  have keep : ∀ b o, b ≠ x → b ≠ dx → h0.get? b = some o → _ := fun b o n1 n2 e => F9.keep b o (K1' b o (fun hm => by
      rcases List.mem_cons.mp hm with h | hm
      · exact n1 h
      · exact n2 (List.mem_singleton.mp hm)) e)
  have old : ∀ b o, s.heap.get? b = some o → b ≠ x ∧ b ≠ dx := fun b o e => ⟨fun q => by (rw [q, sx] at e; cases e), fun q => by (rw [q, sd] at e; cases e)⟩
  refine ⟨rfl, ?_⟩
  refine hQ _ x dx _ _ sx sd ⟨F0.ns.at' fun o e => keep _ o (Ne.symm zx.2.1) (Ne.symm zd.2.1) e, fun b o e => keep b o (old _ _ (F.keep b o e)).1 (old _ _ (F.keep b o e)).2 (F0.keep b o e), F0.above⟩ (fun p hp => ?_) (fun b o nb e => keep b o (old _ _ e).1 (old _ _ e).2 (fx b o nb e)) ⟨(N9 _ (.head _)).1, rfl, rfl, (N9 _ (.tail _ (.head _))).1⟩
  have q := N p hp
  exact ⟨keep _ _ (old _ _ q.1).1 (old _ _ q.1).2 (fx _ _ q.2.1 q.1), q.2⟩
end
end Mine
end
section
theorem Mine.topOffNuLs : True := by
  w_top off
  k_with_none
  trivial
set_option linter.all false
open PySem PySem.W PyProof.Rows PySem.Calls PyProof.V PySem.Spec
set_option maxRecDepth 100000
namespace Mine
theorem stop_out {p : Prop} (h : p) : Stop p := h
section
variable {prog : Program} {w : World} {A : Around} {E : Value → Shared → Prop} {s : Shared}
theorem st_cell {g : Heap} {L : Addr} {m : Str → Option Value} {news : List (Addr × Obj)} {gn : Obj → List (Addr × Obj)} {env : Env} {y : Str} {v : Value} {Q : Unit → Shared → Prop} {c : Addr} {co : Obj} {v₀ : Option Value} (F : Fr g L s.heap m) (N : News g L s.heap news)
    (hk : env.scope.kind = .function) (hy : env.kindOf y = some .cell) (hc : env.cells.lookup y = some c) (U : UpdF c co news gn) (hd : co.data = .cell v₀)
    (k : ∀ h' co', Fr g L h' m → News g L h' (gn co') → co'.data = .cell (some v) → Keep [c] s.heap h' → Q () { s with heap := h' }) :
    wpAny (model prog w) A (storeName env y v) Q E s := by
  have cz := N (c, co) (UpdF.old U)
  refine wpAny_storeName_cell hk hy hc ⟨co, cz.1, hd⟩ fun h₂ hv hs₂ => ?_
  obtain ⟨co', eco, dco⟩ := hv
  have K : Keep [c] s.heap h₂ := fun b o n e => hs₂.extBut b o (fun q => n (List.mem_singleton.mpr q)) e
  have ⟨F', N'⟩ := upd_keep F N U K eco
  exact k h₂ co' F' N' dco K
theorem st_loc {g : Heap} {L : Addr} {m : Str → Option Value} {news : List (Addr × Obj)} {env : Env} {y : Str} {v : Value} {Q : Unit → Shared → Prop} (F : Fr g L s.heap m) (N : News g L s.heap news)
    (hL : env.locals = L) (hy : env.kindOf y = some .local) (hp : (env.scope.kind == .class || (env.scope.kind == .module && env.locals != env.globals)) = false)
    (k : ∀ h', Fr g L h' (fun z => if z = y then some v else m z) → News g L h' news → Keep [L] s.heap h' → Q () { s with heap := h', toks := s.toks + 1 }) :
    wpAny (model prog w) A (storeName env y v) Q E s := by
  subst hL
  refine wpAny_storeName_local hy F.ns (fun h₂ hn₂ hs₂ => ?_) hp
  have K : Keep [env.locals] s.heap h₂ := fun b o n e => hs₂.extBut b o (fun q => n (List.mem_singleton.mpr q)) e
  exact k h₂ ⟨hn₂, fun b o e => K b o (fun hm => absurd (Heap.lt_size e) (Nat.not_lt.mpr ((List.mem_singleton.mp hm) ▸ F.above))) (F.keep b o e), F.above⟩ (fun p hp => ⟨K _ _ (fun hm => (N p hp).2.1 (List.mem_singleton.mp hm)) (N p hp).1, (N p hp).2⟩) K
end
theorem led_there {g h : Heap} {L : Addr} {m : Str → Option Value} {led : List (Addr × Obj)} (F : Fr g L h m) (N : News g L h led) : ∀ z ∈ L :: led.map (·.1), ∃ o, h.get? z = some o := fun z hz => by
  rcases List.mem_cons.mp hz with rfl | hz
  · obtain ⟨o, _, _, e, _⟩ := F.ns; exact ⟨o, e⟩
  · obtain ⟨p, hp, rfl⟩ := List.mem_map.mp hz; exact ⟨_, (N p hp).1⟩
theorem new_off {g h : Heap} {L z : Addr} {m : Str → Option Value} {led : List (Addr × Obj)} (F : Fr g L h m) (N : News g L h led) (hz : h.get? z = none) : g.get? z = none ∧ z ∉ L :: led.map (·.1) := by
  refine ⟨?_, fun hm => ?_⟩
  · cases q : g.get? z with
    | none => rfl
    | some o => have := F.keep z o q; rw [hz] at this; cases this
  · obtain ⟨o, e⟩ := led_there F N z hm
    rw [hz] at e; cases e
section
variable {M : Model} {prog : Program} {w : World} {A : Around} {E : Value → Shared → Prop} {s : Shared} {g : Heap} {L D : Addr} {m : Str → Option Value} {news news' : List (Addr × Obj)}
theorem newList_S {vs : List Value} {Q : Value → Shared → Prop} (F : Fr g L s.heap m) (N : News g L s.heap news)
    (h : ∀ l h', (s.heap.StaysIn h' ∧ s.heap.get? l = none) → Fr g L h' m → News g L h' ((l, listOf vs.toArray 0) :: news) → (∀ p ∈ news, p.1 < l) → Q (.ref l) { s with heap := h' }) (hsz : vs.length ≤ sizeLine) : wpAny M A (newList vs) Q E s :=
  wpAny_newList (h _ _ ⟨fun b o e => Heap.get?_push_of_some _ e, by
    cases e : s.heap.get? s.heap.objs.size with
    | none => rfl
    | some o => exact absurd (Heap.lt_size e) (Nat.lt_irrefl _)⟩ (F.push _) (N.push F _) fun p hp => Heap.lt_size (N p hp).1) hsz
theorem append_S {its : Array Value} {n : Nat} {x : Value} {Q : Value → Shared → Prop} (F : Fr g L s.heap m) (N : News g L s.heap news) (U : Upd D (listOf its n) (listOf (its.push x) (n + 1)) news news')
    (h : ∀ h', Fr g L h' m → News g L h' news' → Keep [D] s.heap h' → Q .none { s with heap := h' }) (hsz : its.size ≤ sizeLine := by size_fits) : wpAny (model prog w) A (call (.builtin "list.append") [.ref D, x]) Q E s := by
  obtain ⟨pre, post, rfl, rfl, a, b⟩ := U.split
  have z := N (D, listOf its n) (List.mem_append.mpr (.inr (.head _)))
  exact append_at (hsz := hsz) z.1 fun h' hs ho' => h h' (F.change hs z.2.1 z.2.2) (news_set N a b hs ho') (Keep.of_same hs)
end
theorem paired_const : ∀ {vs ys : List Value}, Paired (fun _ y => y = Value.bool true) vs ys → ys = (List.replicate vs.length true).map Value.bool
  | [], ys, h => by cases h; rfl
  | v :: vs, ys, h => by
    cases h with
    | cons h1 h2 => rw [h1, paired_const h2]; rfl
theorem off6 {L D : Addr} {o6 o5 o4 o3 o2 o1 : Obj} (hD : ∀ p ∈ [(L + 6, o6), (L + 5, o5), (L + 4, o4), (L + 3, o3), (L + 2, o2), (L + 1, o1)], p.1 ≠ D) : @Ne Nat D (L + 6) ∧ @Ne Nat D (L + 5) ∧ @Ne Nat D (L + 4) ∧ @Ne Nat D (L + 3) ∧ @Ne Nat D (L + 2) ∧ @Ne Nat D (L + 1) :=
  ⟨Ne.symm (hD _ (.head _)), Ne.symm (hD _ (.tail _ (.head _))), Ne.symm (hD _ (.tail _ (.tail _ (.head _)))), Ne.symm (hD _ (.tail _ (.tail _ (.tail _ (.head _))))), Ne.symm (hD _ (.tail _ (.tail _ (.tail _ (.tail _ (.head _)))))), Ne.symm (hD _ (.tail _ (.tail _ (.tail _ (.tail _ (.tail _ (.head _))))))) ⟩
/-- Z holds no tuple, and no list that begins with a bool -/
noncomputable def Quiet (h : Heap) (Z : List Addr) : Prop := ∀ z ∈ Z, ∀ o, h.get? z = some o → ∀ items k, o.data = .seq items k → o.cls ≠ .type "tuple" ∧ ∀ b, items[0]? ≠ some (Value.bool b)
theorem Quiet.nil {h : Heap} : Quiet h [] := fun _ hz => nomatch hz
theorem Quiet.cons {h : Heap} {z : Addr} {Z : List Addr} (a : ∀ o, h.get? z = some o → ∀ items k, o.data = .seq items k → o.cls ≠ .type "tuple" ∧ ∀ b, items[0]? ≠ some (Value.bool b)) (q : Quiet h Z) : Quiet h (z :: Z) := fun y hy => by
  rcases List.mem_cons.mp hy with rfl | hy
  · exact a
  · exact q y hy
theorem Quiet.app {h : Heap} {Y Z : List Addr} (a : Quiet h Y) (b : Quiet h Z) : Quiet h (Y ++ Z) := fun y hy => (List.mem_append.mp hy).elim (a y) (b y)
theorem NoSeq.quiet {h : Heap} {Z : List Addr} (n : NoSeq h Z) : Quiet h Z := fun z hz o e items k d => absurd d (n z hz o e items k)
theorem quiet_tup {h : Heap} {Z : List Addr} {a : Addr} {xs : Array Value} (n : Quiet h Z) (x : IsTup h a xs) : a ∉ Z := fun hm => by
  obtain ⟨o, e, c, k, d⟩ := x
  exact (n a hm o e _ _ d).1 c
theorem quiet_key {w : World} {h : Heap} {Z : List Addr} {t : Addr} {ks : List Int} (n : Quiet h Z) (x : IsTupleKey (iK w) h ks t) : t ∉ Z := fun hm => by
  obtain ⟨o, items, k, e, c, d, _⟩ := x
  exact (n t hm o e _ _ d).1 c
theorem quiet_row {h : Heap} {Z : List Addr} {a : Addr} {row : List Bool} (n : Quiet h Z) (hr : row ≠ []) (x : h.IsList a (row.map Value.bool).toArray) : a ∉ Z := fun hm => by
  obtain ⟨o, e, c, k, d⟩ := x
  cases row with
  | nil => exact hr rfl
  | cons b r => exact (n a hm o e _ _ d).2 b (by simp)
theorem IsPair.keepQ {Z : List Addr} {h h' : Heap} {v : Value} {x : Int} {row : List Bool} (K : Keep Z h h') (n : Quiet h Z) (hr : row ≠ []) (p : IsPair h v x row) : IsPair h' v x row :=
  let ⟨a, t, ra, e, b, c⟩ := p; ⟨a, t, ra, e, keep_tup K (quiet_tup n b) b, keep_list K (quiet_row n hr c) c⟩
theorem quiet_ns {h : Heap} {L : Addr} {m : Str → Option Value} (hn : h.Ns L m) : Quiet h [L] := .cons (fun o e items k d => by
  obtain ⟨o', _, _, e', d', _⟩ := hn
  rw [e'] at e; cases e; rw [d'] at d; cases d) .nil
theorem quiet_cell {h : Heap} {c : Addr} {o : Obj} {v : Option Value} (e : h.get? c = some o) (d : o.data = .cell v) : Quiet h [c] := .cons (fun o' e' items k d' => by
  rw [e] at e'; cases e'; rw [d] at d'; cases d') .nil
noncomputable abbrev CA.all (a : CA) : List Addr := [a.ci, a.cd, a.ck, a.cp, a.cn]
theorem mods_all {a : CA} : ∀ b ∈ a.mods, b ∈ a.all := fun b hb => .tail _ (.tail _ hb)
theorem fresh_of {g : Heap} {a : CA} {P : Addr → Prop} (newa : ∀ z ∈ a.all, g.get? z = none ∧ P z) : Fresh g a := ⟨(newa _ (.tail _ (.tail _ (.head _)))).1, (newa _ (.tail _ (.tail _ (.tail _ (.head _))))).1, (newa _ (.tail _ (.tail _ (.tail _ (.tail _ (.head _)))))).1⟩
theorem quiet_of_z {s3 : Heap} {Z Y : List Addr} {D : Addr} (hZ : ∀ z ∈ Z, z ∉ Y → z = D ∨ ∃ o, s3.get? z = some o ∧ ∀ items k, o.data ≠ .seq items k) (hY : Quiet s3 Y) (hD : Quiet s3 [D]) : Quiet s3 Z := fun z hz => by
  by_cases h : z ∈ Y
  · exact hY z h
  · rcases hZ z hz h with rfl | ⟨o, e, n⟩
    · exact hD z (.head _)
    · intro o' e' items k d
      rw [e] at e'; cases e'; exact absurd d (n _ _)
theorem quiet_list {h : Heap} {D : Addr} {ys : List Value} (hl : h.PlainList D ys.toArray) (n : ∀ b, ys[0]? ≠ some (.bool b)) : Quiet h [D] := .cons (fun o e items k d => by
  obtain ⟨kk, e'⟩ := hl
  rw [e'] at e; cases e; cases d
  exact ⟨fun q => absurd (show Value.type "list" = Value.type "tuple" from q) (by decide), fun b => by simpa using n b⟩) .nil
theorem ints_first {ys : List Value} {xs : List Int} (h : IntsAre ys xs) (b : Bool) : ys[0]? ≠ some (.bool b) := by
  cases h with
  | nil => intro q; cases q
  | cons n t _ => intro q; cases q
theorem Quiet.keep {h h' : Heap} {M Z : List Addr} (K : Keep M h h') (q : Quiet h Z) (d : ∀ z ∈ Z, z ∉ M ∧ ∃ o, h.get? z = some o) : Quiet h' Z := fun z hz o e items k dd => by
  obtain ⟨n, o', e'⟩ := d z hz
  have := K z o' n e'
  rw [e] at this; cases this
  exact q z hz _ e' items k dd
theorem z_off {s1 : Heap} {Z Y : List Addr} (hZ : ∀ z ∈ Z, z ∈ Y ∨ s1.get? z = none) {b : Addr} {o : Obj} (hb : s1.get? b = some o) (hbY : b ∉ Y) : b ∉ Z := fun hm => by
  rcases hZ b hm with h | h
  · exact hbY h
  · rw [hb] at h; cases h
theorem z_quiet {s1 s3 h8 : Heap} {Z Y M : List Addr} {D : Addr} {ys : List Value} (hZ : ∀ z ∈ Z, z ∈ Y ∨ s1.get? z = none) (hZq : ∀ z ∈ Z, z ∉ Y → z = D ∨ ∃ o, s3.get? z = some o ∧ ∀ items k, o.data ≠ .seq items k) (hl : s3.PlainList D ys.toArray) (hb : ∀ b, ys[0]? ≠ some (.bool b))
    (hY : Quiet s3 Y) (hYe : ∀ z ∈ Y, ∃ o, s3.get? z = some o) (hM : ∀ b ∈ M, ∃ o, s1.get? b = some o) (hYM : ∀ z ∈ Y, z ∉ M) (K8 : Keep M s3 h8) : Quiet h8 Z := by
  refine (quiet_of_z hZq hY (quiet_list hl hb)).keep K8 fun z hz => ?_
  by_cases h : z ∈ Y
  · exact ⟨hYM z h, hYe z h⟩
  · refine ⟨fun hm => ?_, ?_⟩
    · obtain ⟨o, e⟩ := hM z hm
      exact z_off hZ e h hz
    · rcases hZq z hz h with rfl | ⟨o, e, _⟩
      · obtain ⟨k, e⟩ := hl; exact ⟨_, e⟩
      · exact ⟨o, e⟩
theorem IsCirc.all_there {w : World} {h : Heap} {a : CA} {ns : List Node} {kn : Kn} (C : IsCirc w h a ns kn) : ∀ z ∈ a.all, ∃ o, h.get? z = some o := by
  obtain ⟨t1, t2, t3, n, I⟩ := C.inst
  exact List.forall_mem_cons.mpr ⟨⟨_, I.at_⟩, List.forall_mem_cons.mpr ⟨⟨_, I.dict⟩, C.there⟩⟩
theorem IsCirc.keepQ {w : World} {Z : List Addr} {h h' : Heap} {a : CA} {ns : List Node} {kn : Kn} (K : Keep Z h h') (n : Quiet h Z) (nz : ∀ z ∈ a.all, z ∉ Z) (C : IsCirc w h a ns kn) : IsCirc w h' a ns kn := by
  obtain ⟨n1, n2⟩ := List.forall_mem_cons.mp nz
  obtain ⟨n2, n3⟩ := List.forall_mem_cons.mp n2
  obtain ⟨n3, n4⟩ := List.forall_mem_cons.mp n3
  obtain ⟨n4, n5⟩ := List.forall_mem_cons.mp n4
  obtain ⟨n5, _⟩ := List.forall_mem_cons.mp n5
  obtain ⟨kvs, nk, ek, rk⟩ := C.kinds
  obtain ⟨pvs, np, ep, rp⟩ := C.parts
  refine ⟨let ⟨t1, t2, t3, m, I⟩ := C.inst; ⟨t1, t2, t3, m, inst_keep K n1 n2 rfl I⟩, ⟨kvs, nk, K _ _ n3 ek, rk⟩, ⟨pvs, np, K _ _ n4 ep, rp.mono fun _ _ x => let ⟨t, e, r⟩ := x; ⟨t, e, tkey_keep K (quiet_key n r) r⟩⟩, ?_, C.ne, C.ne2, C.lo⟩
  obtain ⟨o, es, ep, e, b, c, d, i, nd⟩ := C.known
  exact ⟨o, es, ep, K _ _ n5 e, b, c, d, fun y hy => tkey_keep K (quiet_key n (i y hy)) (i y hy), nd⟩
/-- what the told of the number says of an input -/
noncomputable def inpF (wide : Nat) (m : Nat) (i : Nat) : Bool := toldVal ((List.range wide).map fun j => ((j + 2 : Nat) : Int)) (m : Int) (i : Int)
noncomputable def rowF (ns : List Node) (wide : Nat) (x : Int) : List Bool := (List.range (2 ^ wide)).map fun m => lit (inpF wide m) ns x
noncomputable def PG (ns : List Node) (wide : Nat) (x : Int) (row : List Bool) : Prop := Lit ns x ∧ row = rowF ns wide x
theorem PG.len {ns : List Node} {wide : Nat} {x : Int} {row : List Bool} (p : PG ns wide x row) : row.length = 2 ^ wide := by rw [p.2, rowF, List.length_map, List.length_range]
theorem PG.ne {ns : List Node} {wide : Nat} {x : Int} {row : List Bool} (p : PG ns wide x row) : row ≠ [] := fun e => by
  have := p.len; rw [e, List.length_nil] at this
  have h := Nat.two_pow_pos wide
  omega
theorem PG.neg {ns : List Node} {wide : Nat} {x : Int} {row : List Bool} (p : PG ns wide x row) : PG ns wide (-x) (row.map not) := by
  refine ⟨p.1.neg, ?_⟩
  rw [p.2, rowF, rowF, List.map_map]
  refine List.map_congr_left fun m _ => ?_
  show (!lit _ ns x) = lit _ ns (-x)
  rw [lit_neg p.1.1]
theorem PG.grew {ns ns' : List Node} {kn' : Kn} {k wide : Nat} {x : Int} {row : List Bool} (G : Grew k ns ns' kn') (p : PG ns wide x row) : PG ns' wide x row := by
  refine ⟨G.lit p.1, ?_⟩
  rw [p.2, rowF, rowF]
  exact List.map_congr_left fun m _ => (G.same p.1).symm
theorem PG.at_ {ns : List Node} {wide m : Nat} {x : Int} {row : List Bool} (p : PG ns wide x row) (h : m < 2 ^ wide) : row.getD m false = lit (inpF wide m) ns x := by
  rw [p.2, rowF, List.getD_eq_getElem?_getD, List.getElem?_map, List.getElem?_range h]; rfl
/-- the nodes of a circuit that has only its inputs -/
noncomputable def ns0 (i : Nat) : List Node := [.junk, .tru] ++ List.replicate i .inp
theorem ns0_succ (i : Nat) : ns0 i ++ [.inp] = ns0 (i + 1) := by
  unfold ns0; rw [List.append_assoc]; congr 1
  rw [List.replicate_succ']
theorem ns0_len (i : Nat) : (ns0 i).length = i + 2 := by simp [ns0]
/-- a circuit's inputs, one more -/
theorem ints_more {ys : List Value} {i : Nat} {t : Tok} (h : IntsAre ys ((List.range i).map fun j => ((j + 2 : Nat) : Int))) : IntsAre (ys ++ [.int ((ns0 i).length : Int) t]) ((List.range (i + 1)).map fun j => ((j + 2 : Nat) : Int)) := by
  rw [List.range_succ, List.map_append, ns0_len]
  have : ∀ {vs : List Value} {xs : List Int}, IntsAre vs xs → ∀ n t, IntsAre (vs ++ [.int n t]) (xs ++ [n]) := fun h => by
    induction h with
    | nil => intro n t; exact .cons _ _ .nil
    | cons n t _ ih => intro n' t'; exact .cons _ _ (ih n' t')
  exact this h _ _
theorem ns0_good (i : Nat) : Good (ns0 i) [] := by
  refine ⟨rfl, rfl, fun j ps e => ?_, fun e he => (nomatch he), Nat.zero_le _⟩
  have := List.mem_of_getElem? e
  unfold ns0 at this
  rcases List.mem_append.mp this with h | h
  · simp at h
  · have := (List.mem_replicate.mp h).2; cases this
theorem ns0_at {i j : Nat} (h : j < i) : (ns0 i)[j + 2]? = some .inp := by
  unfold ns0
  rw [List.getElem?_append_right (by simp)]
  simp [h]
theorem lit_inp0 {inp : Nat → Bool} {ns : List Node} {i : Nat} (h : ns[i]? = some .inp) (h0 : 0 < i) : lit inp ns (i : Int) = inp i := by
  obtain ⟨pre, more, e, l, v⟩ := vals_at (inp := inp) h
  unfold lit litOf
  rw [show ((i : Int)).natAbs = i from rfl, v, decide_eq_true (by omega)]
  simp only [beq_true]
  show inp (vals inp pre).length = _
  rw [vals_len, l]
theorem PG.one {i wide : Nat} : PG (ns0 i) wide 1 (List.replicate (2 ^ wide) true) := by
  refine ⟨(ns0_good i).lit1, ?_⟩
  unfold rowF
  refine (List.ext_getElem (by simp) fun n h1 h2 => ?_)
  simp [lit_one (ns0_good i)]
theorem toldVal_in {wide j : Nat} {m : Int} (hj : j < wide) : toldVal ((List.range wide).map fun j => ((j + 2 : Nat) : Int)) m ((j + 2 : Nat) : Int) = bitZ m (j : Int) := by
  induction wide with
  | zero => omega
  | succ n ih =>
    rw [List.range_succ, List.map_append, List.map_singleton, toldVal_snoc, List.length_map, List.length_range]
    by_cases h : j = n
    · subst h
      rw [toldVal_off]
      · simp
      · intro hm
        obtain ⟨q, hq, e⟩ := List.mem_map.mp hm
        have := List.mem_range.mp hq
        omega
    · rw [ih (by omega)]
      have : (((n + 2 : Nat) : Int) == ((j + 2 : Nat) : Int)) = false := beq_eq_false_iff_ne.mpr fun e => h (by omega)
      rw [this]; simp
theorem PG.inp {wide j : Nat} (hj : j < wide) : PG (ns0 wide) wide ((j + 2 : Nat) : Int) ((List.range (2 ^ wide)).map fun m : Nat => bitZ (m : Int) (j : Int)) := by
  refine ⟨⟨by show 0 < (j + 2 : Nat); omega, by rw [ns0_len]; show (j + 2 : Nat) < _; omega⟩, ?_⟩
  unfold rowF
  refine List.map_congr_left fun m _ => ?_
  rw [lit_inp0 (ns0_at hj) (by omega)]
  exact (toldVal_in hj).symm
theorem PG.deed {ns ns' : List Node} {wide : Nat} {kind : Int} {xs : List Int} {r : Int} {row : List Bool} (hl : Lit ns' r) (h : ∀ inp, lit inp ns' r = deed kind (xs.map (lit inp ns))) (hr : row = (List.range (2 ^ wide)).map fun m => Mine.deed kind (xs.map (lit (inpF wide m) ns))) : PG ns' wide r row :=
  ⟨hl, by rw [hr, rowF]; exact List.map_congr_left fun m _ => (h _).symm⟩
end Mine
end
section
theorem Mine.topOffNuLb : True := by
  w_top off
  k_with_none
  trivial
set_option linter.all false
open PySem PySem.W PyProof.Rows PySem.Calls PyProof.V PySem.Spec
set_option maxRecDepth 100000
namespace Mine
noncomputable abbrev frm (L : Addr) : List Addr := [L, L + 6, L + 5, L + 4, L + 3, L + 2, L + 1]
/-- what the law made stands apart -/
structure Ap (L fd lc il nr gl : Addr) (a : CA) : Prop where
  cells : ∀ z ∈ fd :: lc :: il :: nr :: gl :: a.all, z ∉ frm L
  feedA : ∀ z ∈ lc :: il :: nr :: gl :: a.all, z ∉ [fd]
  circA : ∀ z ∈ fd :: lc :: il :: nr :: [gl], z ∉ a.mods
  glA : ∀ z ∈ fd :: lc :: il :: nr :: a.all, z ∉ [gl]
theorem not_there {h : Heap} {z : Addr} {Z : List Addr} (e : h.get? z = none) (x : ∀ y ∈ Z, ∃ o, h.get? y = some o) : z ∉ Z := fun hm => by
  obtain ⟨o, q⟩ := x z hm; rw [e] at q; cases q
theorem above_frm {L z : Nat} (h : L + 6 < z) : z ∉ [L, L + 6, L + 5, L + 4, L + 3, L + 2, L + 1] := fun hm => by
  simp only [List.mem_cons, List.not_mem_nil, or_false] at hm
  omega
theorem frm_sub {L lc fd : Addr} : ∀ z ∈ frm L, z ∈ [L, lc, fd, L + 6, L + 5, L + 4, L + 3, L + 2, L + 1] := fun z hz => by
  rcases List.mem_cons.mp hz with rfl | hz
  · exact .head _
  · exact .tail _ (.tail _ (.tail _ hz))
theorem Ap.make {g : Heap} {L fd lc il nr gl : Addr} {a : CA} (l1 : @LT.lt Nat _ (L + 6) fd) (l2 : @LT.lt Nat _ fd lc) (newa : ∀ z ∈ a.all, g.get? z = none ∧ z ∉ [L, lc, fd, L + 6, L + 5, L + 4, L + 3, L + 2, L + 1])
    (n1 : il ∉ fd :: lc :: (a.all ++ frm L)) (n2 : nr ∉ fd :: lc :: il :: (a.all ++ frm L)) (n3 : gl ∉ fd :: lc :: il :: nr :: (a.all ++ frm L)) : Ap L fd lc il nr gl a where
  cells := List.forall_mem_cons.mpr ⟨above_frm l1, List.forall_mem_cons.mpr ⟨above_frm (Nat.lt_trans l1 l2), List.forall_mem_cons.mpr ⟨fun hm => n1 (.tail _ (.tail _ (List.mem_append_right _ hm))),
    List.forall_mem_cons.mpr ⟨fun hm => n2 (.tail _ (.tail _ (.tail _ (List.mem_append_right _ hm)))), List.forall_mem_cons.mpr ⟨fun hm => n3 (.tail _ (.tail _ (.tail _ (.tail _ (List.mem_append_right _ hm))))), fun z hz hm => (newa z hz).2 (frm_sub z hm)⟩⟩⟩⟩⟩
  feedA := List.forall_mem_cons.mpr ⟨fun hm => absurd (List.mem_singleton.mp hm) (Nat.ne_of_gt l2), List.forall_mem_cons.mpr ⟨fun hm => n1 (List.mem_singleton.mp hm ▸ .head _), List.forall_mem_cons.mpr ⟨fun hm => n2 (List.mem_singleton.mp hm ▸ .head _),
    List.forall_mem_cons.mpr ⟨fun hm => n3 (List.mem_singleton.mp hm ▸ .head _), fun z hz hm => (newa z hz).2 (List.mem_singleton.mp hm ▸ .tail _ (.tail _ (.head _)))⟩⟩⟩⟩
  circA := List.forall_mem_cons.mpr ⟨fun hm => (newa _ (mods_all _ hm)).2 (.tail _ (.tail _ (.head _))), List.forall_mem_cons.mpr ⟨fun hm => (newa _ (mods_all _ hm)).2 (.tail _ (.head _)), List.forall_mem_cons.mpr ⟨fun hm => n1 (.tail _ (.tail _ (List.mem_append_left _ (mods_all _ hm)))),
    List.forall_mem_cons.mpr ⟨fun hm => n2 (.tail _ (.tail _ (.tail _ (List.mem_append_left _ (mods_all _ hm))))), List.forall_mem_cons.mpr ⟨fun hm => n3 (.tail _ (.tail _ (.tail _ (.tail _ (List.mem_append_left _ (mods_all _ hm)))))), fun _ h => nomatch h⟩⟩⟩⟩⟩
  glA := List.forall_mem_cons.mpr ⟨fun hm => n3 (List.mem_singleton.mp hm ▸ .head _), List.forall_mem_cons.mpr ⟨fun hm => n3 (List.mem_singleton.mp hm ▸ .tail _ (.head _)), List.forall_mem_cons.mpr ⟨fun hm => n3 (List.mem_singleton.mp hm ▸ .tail _ (.tail _ (.head _))),
    List.forall_mem_cons.mpr ⟨fun hm => n3 (List.mem_singleton.mp hm ▸ .tail _ (.tail _ (.tail _ (.head _)))), fun z hz hm => n3 (.tail _ (.tail _ (.tail _ (.tail _ (List.mem_append_left _ (List.mem_singleton.mp hm ▸ hz))))))⟩⟩⟩⟩
/-- what the law has made, between two statements -/
structure LB (w : World) (h : Heap) (fd lc il nr gl : Addr) (a : CA) (wn pn : Nat) (k : Int) (ns : List Node) (kn : Kn) (n : Nat) : Prop where
  feed : Feed w h fd lc k
  circ : IsCirc w h a ns kn
  good : Good ns kn
  ins : ∃ (ivs : List Value) (ik : Nat), h.get? il = some (listOf ivs.toArray ik) ∧ IntsAre ivs ((List.range wn).map fun j => ((j + 2 : Nat) : Int))
  rng : ∃ rt ru rv, IsRange h nr 0 (pn : Int) 1 rt ru rv
  gates : ∃ (gvs : List Value) (nG : Nat), h.get? gl = some (listOf gvs.toArray nG) ∧ gvs.length = n ∧ ∀ v ∈ gvs, ∃ x row, IsPair h v x row ∧ PG ns wn x row
section
variable {w : World} {h h' : Heap} {fd lc il nr gl : Addr} {a : CA} {wn pn : Nat} {k : Int} {ns : List Node} {kn : Kn} {n : Nat} {Z : List Addr}
theorem LB.keep (K : Keep Z h h') (q : Quiet h Z) (nz : ∀ z ∈ fd :: lc :: il :: nr :: gl :: a.all, z ∉ Z) (B : LB w h fd lc il nr gl a wn pn k ns kn n) : LB w h' fd lc il nr gl a wn pn k ns kn n := by
  obtain ⟨nfd, nz⟩ := List.forall_mem_cons.mp nz
  obtain ⟨nlc, nz⟩ := List.forall_mem_cons.mp nz
  obtain ⟨nil, nz⟩ := List.forall_mem_cons.mp nz
  obtain ⟨nnr, nz⟩ := List.forall_mem_cons.mp nz
  obtain ⟨ngl, nz⟩ := List.forall_mem_cons.mp nz
  obtain ⟨ivs, ik, hi, hi2⟩ := B.ins
  obtain ⟨rt, ru, rv, hr⟩ := B.rng
  obtain ⟨gvs, nG, hg, hgl, hp⟩ := B.gates
  exact ⟨B.feed.keep K nfd nlc, B.circ.keepQ K q nz, B.good, ⟨ivs, ik, K _ _ nil hi, hi2⟩, ⟨rt, ru, rv, K _ _ nnr hr⟩, ⟨gvs, nG, K _ _ ngl hg, hgl, fun v hv => let ⟨x, row, p, pg⟩ := hp v hv; ⟨x, row, p.keepQ K q pg.ne, pg⟩⟩⟩
theorem LB.stay (K : h.StaysIn h') (B : LB w h fd lc il nr gl a wn pn k ns kn n) : LB w h' fd lc il nr gl a wn pn k ns kn n := B.keep (Keep.of_stay (M := []) K) .nil fun _ _ h => nomatch h
theorem Feed.quiet (f : Feed w h fd lc k) : Quiet h [fd] := .cons (fun o e items k' d => by
  obtain ⟨o', _, _, _, e', ⟨es, ep, _, d', _⟩, _⟩ := f
  rw [e'] at e; cases e; rw [d'] at d; cases d) .nil
theorem IsCirc.quiet (C : IsCirc w h a ns kn) : Quiet h a.mods := by
  obtain ⟨kvs, nk, ek, rk⟩ := C.kinds
  obtain ⟨pvs, np, ep, rp⟩ := C.parts
  obtain ⟨o5, es5, ep5, e5, _, d5, _⟩ := C.known
  refine .cons (fun o e items k d => ?_) (.cons (fun o e items k d => ?_) (.cons (fun o e items k d => ?_) .nil))
  · rw [ek] at e; cases e; cases d
    refine ⟨fun q => absurd (show Value.type "list" = Value.type "tuple" from q) (by decide), fun b q => ?_⟩
    generalize ns.map Node.kind = ks at rk
    cases rk with
    | nil => simp at q
    | cons y t _ => simp at q
  · rw [ep] at e; cases e; cases d
    refine ⟨fun q => absurd (show Value.type "list" = Value.type "tuple" from q) (by decide), fun b q => ?_⟩
    cases rp with
    | nil => simp at q
    | cons f _ => obtain ⟨t, rfl, _⟩ := f; simp at q
  · rw [e5] at e; cases e; rw [d5] at d; cases d
theorem LB.quiet_gl (B : LB w h fd lc il nr gl a wn pn k ns kn n) : Quiet h [gl] := by
  obtain ⟨gvs, nG, hg, hgl, hp⟩ := B.gates
  refine .cons (fun o e items k d => ?_) .nil
  rw [hg] at e; cases e; cases d
  refine ⟨fun q => absurd (show Value.type "list" = Value.type "tuple" from q) (by decide), fun b q => ?_⟩
  cases gvs with
  | nil => simp at q
  | cons v r =>
    obtain ⟨x, row, ⟨p, t, ra, rfl, _⟩, _⟩ := hp v (.head _)
    simp at q
theorem LB.setFeed {L : Addr} {k' : Int} (A : Ap L fd lc il nr gl a) (K : Keep [fd] h h') (F' : Feed w h' fd lc k') (B : LB w h fd lc il nr gl a wn pn k ns kn n) : LB w h' fd lc il nr gl a wn pn k' ns kn n := by
  have q := B.feed.quiet
  obtain ⟨_, nz⟩ := List.forall_mem_cons.mp A.feedA
  obtain ⟨nil, nz⟩ := List.forall_mem_cons.mp nz
  obtain ⟨nnr, nz⟩ := List.forall_mem_cons.mp nz
  obtain ⟨ngl, nz⟩ := List.forall_mem_cons.mp nz
  obtain ⟨ivs, ik, hi, hi2⟩ := B.ins
  obtain ⟨rt, ru, rv, hr⟩ := B.rng
  obtain ⟨gvs, nG, hg, hgl, hp⟩ := B.gates
  exact ⟨F', B.circ.keepQ K q nz, B.good, ⟨ivs, ik, K _ _ nil hi, hi2⟩, ⟨rt, ru, rv, K _ _ nnr hr⟩, ⟨gvs, nG, K _ _ ngl hg, hgl, fun v hv => let ⟨x, row, p, pg⟩ := hp v hv; ⟨x, row, p.keepQ K q pg.ne, pg⟩⟩⟩
theorem LB.setCirc {L : Addr} {ns' : List Node} {kn' : Kn} {j : Nat} (A : Ap L fd lc il nr gl a) (K : Keep a.mods h h') (C' : IsCirc w h' a ns' kn') (G : Grew j ns ns' kn') (B : LB w h fd lc il nr gl a wn pn k ns kn n) : LB w h' fd lc il nr gl a wn pn k ns' kn' n := by
  have q := B.circ.quiet
  obtain ⟨nfd, nz⟩ := List.forall_mem_cons.mp A.circA
  obtain ⟨nlc, nz⟩ := List.forall_mem_cons.mp nz
  obtain ⟨nil, nz⟩ := List.forall_mem_cons.mp nz
  obtain ⟨nnr, nz⟩ := List.forall_mem_cons.mp nz
  obtain ⟨ngl, _⟩ := List.forall_mem_cons.mp nz
  obtain ⟨ivs, ik, hi, hi2⟩ := B.ins
  obtain ⟨rt, ru, rv, hr⟩ := B.rng
  obtain ⟨gvs, nG, hg, hgl, hp⟩ := B.gates
  exact ⟨B.feed.keep K nfd nlc, C', G.good, ⟨ivs, ik, K _ _ nil hi, hi2⟩, ⟨rt, ru, rv, K _ _ nnr hr⟩, ⟨gvs, nG, K _ _ ngl hg, hgl, fun v hv => let ⟨x, row, p, pg⟩ := hp v hv; ⟨x, row, p.keepQ K q pg.ne, pg.grew G⟩⟩⟩
theorem LB.push {L : Addr} {x : Int} {row : List Bool} {gvs : List Value} {nG : Nat} {v : Value} (A : Ap L fd lc il nr gl a) (B : LB w h fd lc il nr gl a wn pn k ns kn n) (eg : h.get? gl = some (listOf gvs.toArray nG)) (K : Keep [gl] h h') (eg' : h'.get? gl = some (listOf (gvs.toArray.push v) (nG + 1))) (p : IsPair h' v x row) (pg : PG ns wn x row) : LB w h' fd lc il nr gl a wn pn k ns kn (n + 1) := by
  have q := B.quiet_gl
  obtain ⟨nfd, nz⟩ := List.forall_mem_cons.mp A.glA
  obtain ⟨nlc, nz⟩ := List.forall_mem_cons.mp nz
  obtain ⟨nil, nz⟩ := List.forall_mem_cons.mp nz
  obtain ⟨nnr, nz⟩ := List.forall_mem_cons.mp nz
  obtain ⟨ivs, ik, hi, hi2⟩ := B.ins
  obtain ⟨rt, ru, rv, hr⟩ := B.rng
  obtain ⟨gvs', nG', hg, hgl, hp⟩ := B.gates
  rw [eg] at hg
  have e : gvs = gvs' := by
    simp only [Option.some.injEq, Obj.mk.injEq, Data.seq.injEq] at hg
    simpa using hg.2.2.1.1
  subst e
  refine ⟨B.feed.keep K nfd nlc, B.circ.keepQ K q nz, B.good, ⟨ivs, ik, K _ _ nil hi, hi2⟩, ⟨rt, ru, rv, K _ _ nnr hr⟩, ⟨gvs ++ [v], nG + 1, ?_, by rw [List.length_append, hgl]; rfl, fun u hu => ?_⟩⟩
  · rw [eg']; simp
  · rcases List.mem_append.mp hu with hu | hu
    · obtain ⟨x', row', p', pg'⟩ := hp u hu; exact ⟨x', row', p'.keepQ K q pg'.ne, pg'⟩
    · rw [List.mem_singleton.mp hu]; exact ⟨x, row, p, pg⟩
theorem LB.stab {g : Heap} {L : Addr} {m : Str → Option Value} {c : List (Addr × Obj)} (A : Ap L fd lc il nr gl a) (F : Fr g L h m) (N : News g L h c) (hc : c.map (·.1) = [L + 6, L + 5, L + 4, L + 3, L + 2, L + 1]) (cd : ∀ p ∈ c, ∃ v, p.2.data = .cell v)
    (K : Keep Z h h') (hZ : ∀ z ∈ Z, z ∈ L :: [L + 6, L + 5, L + 4, L + 3, L + 2, L + 1] ∨ (z ∉ fd :: lc :: il :: nr :: gl :: a.all ∧ ∀ o, h.get? z = some o → ∀ items k, o.data ≠ .seq items k)) (B : LB w h fd lc il nr gl a wn pn k ns kn n) : LB w h' fd lc il nr gl a wn pn k ns kn n := by
  refine B.keep K (fun z hz => ?_) fun z hz hm => ?_
  · rcases hZ z hz with h1 | ⟨_, h2⟩
    · rcases List.mem_cons.mp h1 with rfl | h1
      · exact quiet_ns F.ns z (.head _)
      · rw [← hc] at h1
        obtain ⟨p, hp, rfl⟩ := List.mem_map.mp h1
        obtain ⟨v, d⟩ := cd p hp
        exact quiet_cell (N p hp).1 d _ (.head _)
    · intro o e items k d; exact absurd d (h2 o e _ _)
  · rcases hZ z hm with h1 | ⟨h2, _⟩
    · exact A.cells z hz h1
    · exact h2 hz
theorem LB.cell {L c : Addr} {o : Obj} {v : Option Value} (A : Ap L fd lc il nr gl a) (K : Keep [c] h h') (hc : c ∈ frm L) (e : h.get? c = some o) (d : o.data = .cell v) (B : LB w h fd lc il nr gl a wn pn k ns kn n) : LB w h' fd lc il nr gl a wn pn k ns kn n :=
  B.keep K (quiet_cell e d) fun z hz hm => A.cells z hz (List.mem_singleton.mp hm ▸ hc)
theorem LB.loc {L : Addr} {m : Str → Option Value} (A : Ap L fd lc il nr gl a) (K : Keep [L] h h') (hn : h.Ns L m) (B : LB w h fd lc il nr gl a wn pn k ns kn n) : LB w h' fd lc il nr gl a wn pn k ns kn n :=
  B.keep K (quiet_ns hn) fun z hz hm => A.cells z hz (List.mem_singleton.mp hm ▸ .head _)
theorem LB.there {wn pn : Nat} (B : LB w h fd lc il nr gl a wn pn k ns kn n) : ∀ z ∈ fd :: lc :: il :: nr :: gl :: a.all, ∃ o, h.get? z = some o := by
  obtain ⟨o, _, _, _, e1, _, ⟨o2, e2, _⟩, _⟩ := B.feed
  obtain ⟨ivs, ik, hi, hi2⟩ := B.ins
  obtain ⟨rt, ru, rv, hr⟩ := B.rng
  obtain ⟨gvs, nG, hg, hgl, hp⟩ := B.gates
  exact List.forall_mem_cons.mpr ⟨⟨_, e1⟩, List.forall_mem_cons.mpr ⟨⟨_, e2⟩, List.forall_mem_cons.mpr ⟨⟨_, hi⟩, List.forall_mem_cons.mpr ⟨⟨_, hr⟩, List.forall_mem_cons.mpr ⟨⟨_, hg⟩, B.circ.all_there⟩⟩⟩⟩⟩
end
theorem paired_fun {f : Int → Bool} {n : Nat} {vs ys : List Value} (hl : vs.length = n) (hv : ∀ (j : Nat) v, vs[j]? = some v → ∃ t, v = .int (j : Int) t) (h : Paired (fun (v y : Value) => ∃ m t, v = .int m t ∧ y = .bool (f m)) vs ys) : ys = ((List.range n).map fun m : Nat => f (m : Int)).map Value.bool := by
  have e := h.length
  refine List.ext_getElem (by rw [List.length_map, List.length_map, List.length_range, ← hl, ← e]) fun j h1 h2 => ?_
  have hj : j < vs.length := by omega
  obtain ⟨b, hb, m, t, e1, e2⟩ := paired_at h (List.getElem?_eq_getElem hj)
  obtain ⟨t', e3⟩ := hv j _ (List.getElem?_eq_getElem hj)
  rw [e3] at e1; cases e1
  rw [List.getElem?_eq_getElem h1] at hb; cases hb
  rw [e2]; simp
theorem ne6 {L z : Addr} (h : z ∉ [L + 6, L + 5, L + 4, L + 3, L + 2, L + 1]) : @Ne Nat z (L + 6) ∧ @Ne Nat z (L + 5) ∧ @Ne Nat z (L + 4) ∧ @Ne Nat z (L + 3) ∧ @Ne Nat z (L + 2) ∧ @Ne Nat z (L + 1) :=
  ⟨fun e => h (e ▸ .head _), fun e => h (e ▸ .tail _ (.head _)), fun e => h (e ▸ .tail _ (.tail _ (.head _))), fun e => h (e ▸ .tail _ (.tail _ (.tail _ (.head _)))), fun e => h (e ▸ .tail _ (.tail _ (.tail _ (.tail _ (.head _))))), fun e => h (e ▸ .tail _ (.tail _ (.tail _ (.tail _ (.tail _ (.head _))))))⟩
end Mine
end
section
theorem Mine.topOffNuForH : True := by
  w_top off
  k_with_none
  trivial
set_option linter.all false
open PySem PySem.W PyProof.Rows PySem.Calls PyProof.V PySem.Spec
set_option maxRecDepth 100000
namespace Mine
section
variable {prog : Program} {w : World} {A : Around} {E : Value → Shared → Prop} {s : Shared}
/-- the end of a turn, the invariant over the heap -/
noncomputable def TurnH (g : Heap) (L I : Addr) (oI : Obj) (CL : List Addr) (P' : (Str → Option Value) → List (Addr × Obj) → Heap → Prop) (s₁ : Shared) (Q : Flow → Shared → Prop) (fl : Flow) (s' : Shared) : Prop :=
  match fl with
  | .ret v => Q (.ret v) s'
  | .brk => Q .next s'
  | _ => Stop (∃ h' tk m' c', s' = { s₁ with heap := h', toks := tk } ∧ Fr g L h' m' ∧ News g L h' ((I, oI) :: c') ∧ c'.map (·.1) = CL ∧ P' m' c' h')
theorem TurnH.next {g : Heap} {L I : Addr} {oI : Obj} {CL : List Addr} {P' : (Str → Option Value) → List (Addr × Obj) → Heap → Prop} {s₁ : Shared} {Q : Flow → Shared → Prop} {h' : Heap} {tk : Nat} {m' : Str → Option Value} {c' all : List (Addr × Obj)}
    (F : Fr g L h' m') (N : News g L h' all) (hI : (I, oI) ∈ all) (hn : ∀ p ∈ c', p ∈ all) (hc : c'.map (·.1) = CL) (J : P' m' c' h') : TurnH g L I oI CL P' s₁ Q .next { s₁ with heap := h', toks := tk } :=
  ⟨h', tk, m', c', rfl, F, fun p hp => by rcases List.mem_cons.mp hp with rfl | hp; exact N _ hI; exact N _ (hn p hp), hc, J⟩
inductive HJ (g : Heap) (L : Addr) (CL Fx : List Addr) (Fc : List (Addr × Obj)) (P : Nat → (Str → Option Value) → List (Addr × Obj) → Heap → Prop) (i : Nat) (m' : Str → Option Value) (nx : List (Addr × Obj)) : Prop
  | mk : ∀ c R, nx = c ++ R → c.map (·.1) = CL → (∀ z ∈ Fx, ∃ o, (z, o) ∈ R) → (∀ p ∈ Fc, p ∈ R) → (∀ h, Fr g L h m' → News g L h nx → P i m' c h) → HJ g L CL Fx Fc P i m' nx
theorem for_H {g : Heap} {env : Env} {target iter : Expr} {body : List Stmt} {pos : Pos} {Q : Flow → Shared → Prop} {m : Str → Option Value} (F₀ : Fr g env.locals s.heap m) (CL Fx : List Addr) (Fc : List (Addr × Obj))
    (P : Nat → (Str → Option Value) → List (Addr × Obj) → Heap → Prop)
    (hstab : ∀ i m c h h2 Z, P i m c h → Keep Z h h2 → (∀ z ∈ Z, z ∈ env.locals :: CL ∨ (z ∉ Fx ∧ ∀ o, h.get? z = some o → ∀ items k, o.data ≠ .seq items k)) → Fr g env.locals h m → News g env.locals h c → c.map (·.1) = CL → P i m c h2)
    (hfx : ∀ i m c h, P i m c h → ∀ z ∈ Fx, ∃ o, h.get? z = some o) (hfg : ∀ z ∈ Fx, g.get? z = none ∧ z ∉ env.locals :: CL) (hfc : ∀ i m c h, P i m c h → ∀ p ∈ Fc, h.get? p.1 = some p.2) (hfc2 : ∀ p ∈ Fc, p.1 ∈ Fx)
    (h : wpAny (model prog w) A (eval iter env) (fun xv s₁ => Stop (∃ n PP srcs m c, Iterates prog w A s₁ xv n PP srcs ∧ Fr g env.locals s₁.heap m ∧ News g env.locals s₁.heap c ∧ c.map (·.1) = CL ∧ P 0 m c s₁.heap ∧ (∀ b ∈ srcs, ∃ o, (b, o) ∈ Fc) ∧
      (∀ i v m c h tk I oI, i < n → PP i v → P i m c h → c.map (·.1) = CL → Fr g env.locals h m → News g env.locals h ((I, oI) :: c) → (∀ items k, oI.data ≠ .seq items k) → I ∉ Fx → I ∉ CL →
        wpAny (model prog w) A (assign target env v) (fun _ s₂ => wpAny (model prog w) A (execs body env) (TurnH g env.locals I oI CL (P (i + 1)) s₁ Q) (fun _ _ => False) s₂) (fun _ _ => False) { s₁ with heap := h, toks := tk }) ∧
      (∀ h tk m c, Fr g env.locals h m → News g env.locals h c → c.map (·.1) = CL → P n m c h → Q .next { s₁ with heap := h, toks := tk }))) (fun _ _ => False) s)
    (hs : ∀ x, foldedSetIterable iter env x = pure x) :
    wpAny (model prog w) A (exec (.For target iter body [] pos) env) Q (fun _ _ => False) s := by
  refine for_K F₀ (HJ g env.locals CL Fx Fc P) (wpAny_mono h (fun xv s₁ h₁ => ?_) fun _ _ e => e) hs
  obtain ⟨n, PP, srcs, m, c, It, Fm, N, hc, hP, hsr, step, done⟩ := h₁
  refine ⟨n, PP, srcs, m, ?_⟩
  obtain ⟨R, NR, off, Rall, Rk⟩ := openR Fm N
  rw [hc] at off Rall Rk
  refine ⟨c ++ R, It, Fm, NR, ⟨c, R, rfl, hc, fun z hz => ?_, fun p hp => ?_, fun h2 F2 N2 => ?_⟩, fun b hb => ?_, ?_, ?_⟩
  · obtain ⟨o, e⟩ := hfx _ _ _ _ hP z hz
    have q := hfg z hz
    exact ⟨o, Rall z o e (fun k => q.2 (k ▸ .head _)) (fun k => q.2 (.tail _ k)) q.1⟩
  · have q := hfg _ (hfc2 p hp)
    exact Rall p.1 p.2 (hfc _ _ _ _ hP p hp) (fun k => q.2 (k ▸ .head _)) (fun k => q.2 (.tail _ k)) q.1
  · exact hstab 0 m c _ h2 _ hP (Rk h2 m F2 fun p hp => N2 p (List.mem_append_right _ hp)) (fun z hz => .inl hz) Fm N hc
  · obtain ⟨o, ho⟩ := hsr b hb
    exact .inr ⟨o, fun i m' nx ⟨c, R, e, _, _, k, _⟩ => e ▸ List.mem_append_right _ (k _ ho)⟩
  · rintro i v m₁ nx h tk I oI hi hPP ⟨c₁, R₁, rfl, hc₁, hx₁, hf₁, hP₁⟩ offI F₁ N₁ dI
    have Pi := hP₁ h F₁ fun p hp => N₁ p (.tail _ hp)
    have nIx : I ∉ Fx := fun hm => by
      obtain ⟨o, ho⟩ := hx₁ I hm
      exact offI _ (List.mem_append_right _ ho) rfl
    have nIc : I ∉ CL := fun hm => by
      rw [← hc₁] at hm
      obtain ⟨p, hp, e⟩ := List.mem_map.mp hm
      exact offI p (List.mem_append_left _ hp) e
    refine wpAny_mono (step i v m₁ c₁ h tk I oI hi hPP Pi hc₁ F₁ (fun p hp => N₁ p (by
      rcases List.mem_cons.mp hp with rfl | hp
      · exact .head _
      · exact .tail _ (List.mem_append_left _ hp))) dI nIx nIc) (fun _ s₂ h₂ => wpAny_mono h₂ (fun fl s₃ h₃ => ?_) fun _ _ e => e) fun _ _ e => e
    have fin : Stop (∃ h' tk m' c', s₃ = { s₁ with heap := h', toks := tk } ∧ Fr g env.locals h' m' ∧ News g env.locals h' ((I, oI) :: c') ∧ c'.map (·.1) = CL ∧ P (i + 1) m' c' h') →
        Stop (∃ h' tk m' news', s₃ = { s₁ with heap := h', toks := tk } ∧ Fr g env.locals h' m' ∧ News g env.locals h' ((I, oI) :: news') ∧ (∀ p ∈ news', p.1 ≠ I) ∧
          HJ g env.locals CL Fx Fc P (i + 1) m' news') := by
      rintro ⟨h', tk', m', c', rfl, F', N', hc', P'⟩
      obtain ⟨R', NR', off', Rall', Rk'⟩ := openR F' N'
      have em : ((I, oI) :: c').map (·.1) = I :: CL := by rw [List.map_cons, hc']
      rw [em] at off' Rall' Rk'
      have inR : ∀ z o, z ∈ Fx → h'.get? z = some o → (z, o) ∈ R' := fun z o hz e => by
        have q := hfg z hz
        refine Rall' z o e (fun k => q.2 (k ▸ .head _)) (fun k => ?_) q.1
        rcases List.mem_cons.mp k with k | k
        · exact nIx (k ▸ hz)
        · exact q.2 (.tail _ k)
      refine ⟨h', tk', m', c' ++ R', rfl, F', NR', fun p hp k => ?_, c', R', rfl, hc', fun z hz => ?_, fun p hp => inR _ _ (hfc2 p hp) (hfc _ _ _ _ P' p hp), fun h2 F2 N2 => ?_⟩
      · rcases List.mem_append.mp hp with hp | hp
        · exact nIc (hc' ▸ List.mem_map.mpr ⟨p, hp, k⟩)
        · exact off' p hp (k ▸ .head _)
      · obtain ⟨o, e⟩ := hfx _ _ _ _ P' z hz
        exact ⟨o, inR z o hz e⟩
      · refine hstab _ m' c' h' h2 _ P' (Rk' h2 m' F2 fun p hp => N2 p (List.mem_append_right _ hp)) (fun z hz => ?_) F' (fun p hp => N' p (.tail _ hp)) hc'
        rcases List.mem_cons.mp hz with rfl | hz
        · exact .inl (.head _)
        · rcases List.mem_cons.mp hz with rfl | hz
          · exact .inr ⟨nIx, fun o e items k d => by
              have := (N' _ (.head _)).1
              rw [e] at this; cases this; exact dI _ _ d⟩
          · exact .inl (.tail _ hz)
    cases fl with
    | ret v => exact h₃
    | brk => exact h₃
    | next => exact fin h₃
    | cont => exact fin h₃
  · rintro h tk m' nx F' N' ⟨c₁, R₁, rfl, hc₁, hx₁, hf₁, hP₁⟩
    exact done h tk m' c₁ F' (fun p hp => N' p (List.mem_append_left _ hp)) hc₁ (hP₁ h F' N')
end
end Mine
end
section
theorem Mine.topOffNuTurn : True := by
  w_top off
  k_with_none
  trivial
set_option linter.all false
open PySem PySem.W PyProof.Rows PySem.Calls PyProof.V PySem.Spec
set_option maxRecDepth 100000
namespace Mine
section
variable {w : World} {mean : ExcName → Option Value} {mg mb : Str → Option Value} {g : Heap} {L : Addr} {m : Str → Option Value} {c : List (Addr × Obj)} {dp un : Nat} {fr : Option (List Env)} {gd : Option (List Code)} {s : Shared} {Q E : Value → Shared → Prop} {fd lc gl : Addr} {k wd : Int} {t : Tok}
theorem next_H (X : (Mine.kx.heap_1 w.params).In g) (T : Top Mine.vw [] mean mg mb g) (F : Fr g L s.heap m) (N : News g L s.heap c) (fg : g.get? fd = none) (fL : fd ≠ L) (fc : fd ∉ c.map (·.1)) (f : Feed w s.heap fd lc k) (fl : lc ≠ fd) (hdp : dp ≤ 900) (hun : un ≤ 9000) (hk0 : 0 ≤ k) (hk1 : k ≤ 1000) (hw : 1 ≤ wd) (hw2 : wd ≤ 100)
   (hQ : ∀ h' r tr tk, Fr g L h' m → News g L h' c → Keep [fd] s.heap h' → Feed w h' fd lc (k + 1) → 0 ≤ r → r < wd → Q (.int r tr) { s with heap := h', toks := tk }) :
   wpAny (model PySem.Challenge.rw_nu0266_01.row.prog w) (At dp un fr gd) (call (.ref 164) [.ref fd, .int wd t]) Q E s := by
  obtain ⟨o, cvs, cz, tz, e, d, hl, hi, hz⟩ := f
  refine next_spec ⟨X, T⟩ F.keep fd lc o e fg t tz k wd hdp hun cz cvs.toList d hk0 hk1 hw hw2 (by rw [Array.toArray_toList]; exact hl) hi hz fl fun h' o' r tr tk t'' K _ e' d' r0 r1 => ?_
  obtain ⟨F', N'⟩ := after F N K (fun b hb => (List.mem_singleton.mp hb) ▸ fg) (fun hm => fL (List.mem_singleton.mp hm).symm) (fun p hp hm => fc (List.mem_singleton.mp hm ▸ List.mem_map_of_mem hp))
  exact hQ h' r tr tk F' N' K ⟨o', cvs, cz, t'', e', d', keep_list K (fun hm => fl (List.mem_singleton.mp hm)) hl, hi, hz⟩ r0 r1
theorem pick_H {ns : List Node} {wn nG : Nat} {gvs : List Value} (X : (Mine.kx.heap_1 w.params).In g) (T : Top Mine.vw [] mean mg mb g) (S : g.StaysIn s.heap) (fg : g.get? fd = none) (f : Feed w s.heap fd lc k) (fl : lc ≠ fd) (hdp : dp ≤ 800) (hun : un ≤ 8900) (hk0 : 0 ≤ k) (hk1 : k ≤ 900) (hwn : wn ≤ 3)
   (hg : s.heap.get? gl = some (listOf gvs.toArray nG)) (hgv : ∀ v ∈ gvs, ∃ x row, IsPair s.heap v x row ∧ PG ns wn x row) (hg1 : 1 ≤ gvs.length) (hg2 : gvs.length ≤ 100)
   (hQ : ∀ h' v x row tk, Keep [fd] s.heap h' → Feed w h' fd lc (k + 2) → IsPair h' v x row → PG ns wn x row → Q v { s with heap := h', toks := tk }) :
   wpAny (model PySem.Challenge.rw_nu0266_01.row.prog w) (At dp un fr gd) (call (.ref 169) [.ref fd, .ref gl]) Q E s := by
  obtain ⟨o, cvs, cz, tz, e, d, hl, hi, hz⟩ := f
  have hp : 2 ^ wn ≤ 8 := Nat.pow_le_pow_right (by decide) hwn
  refine pick_spec (PG ns wn) (fun x r p => p.neg) (fun x r p => by rw [p.len]; exact hp) ⟨X, T⟩ S fd lc gl o e fg tz k hdp hun cz cvs.toList gvs d hk0 hk1 (by rw [Array.toArray_toList]; exact hl) hi hz ⟨_, hg, rfl, _, rfl⟩ hgv hg1 hg2 fun h' o' v x row tk t'' K _ e' d' p pg => ?_
  exact hQ h' v x row tk K ⟨o', cvs, cz, t'', e', (by rw [show k + 2 = k + 1 + 1 from by omega]; exact d'), keep_list K (fun hm => fl (List.mem_singleton.mp hm)) hl, hi, hz⟩ p pg
end
section
variable {prog : Program} {w : World} {A : Around} {E : Value → Shared → Prop} {s : Shared}
theorem comp_range {env : Env} {elt iter : Expr} {x : Str} {px : Pos} {scope : Scope} {cl : List (Str × Addr)} {pos : Pos} {Q : Value → Shared → Prop}
    (hclos : closureFor scope env = pure cl) (hcell : ∀ y ∈ scope.names, y.2 ≠ .cell) (hkind : scope.kind = .function)
    (hnames : ∀ y ∈ scope.names, y.2 = .local → scope.names.lookup y.1 = some .local) (hx : scope.names.lookup x = some .local) (hh : A.handled = none)
    (h : wpAny (model prog w) A (eval iter env) (fun xv s₁ => Stop (∃ (r : Addr) (b : Int) (t u v : Tok) (n : Nat) (Y M : List Addr) (J : Nat → Heap → List Value → Prop), xv = .ref r ∧ IsRange s₁.heap r 0 b 1 t u v ∧ Builtin.Range.small 0 b 1 = true ∧ Builtin.Range.rangeSize 0 b 1 = (n : Int) ∧ n ≤ sizeLine ∧
      (∀ b ∈ M, ∃ o, s₁.heap.get? b = some o) ∧ (∀ b ∈ Y, ∃ o, s₁.heap.get? b = some o) ∧ (∀ h'', Keep Y s₁.heap h'' → J 0 h'' []) ∧ EltsR prog w A env scope cl x elt n Y M J s₁ ∧
      (∀ D h' tk ys kk, s₁.heap.get? D = none → h'.get? D = some (listOf (ys : List Value).toArray kk) → ys.length = n → J n h' ys → Keep M s₁.heap h' → Q (.ref D) { s₁ with heap := h', toks := tk }))) E s)
    (hs : ∀ x, foldedSetIterable iter env x = pure x) :
    wpAny (model prog w) A (eval (.ListComp elt [⟨.Name x px, iter, [], 0⟩] scope pos) env) Q E s := by
  rw [eval_ListComp]
  refine wpAny_comprehension_free (use := none) rfl hs hclos hkind hnames (wpAny_mono h (fun xv s₁ h₁ => ?_) fun _ _ e => e)
  obtain ⟨r, b, t, u, v, n, Y, M, J, rfl, hr, hsmall, hn, hsz, hM, hY, h0, hE, hfin⟩ := h₁
  refine wpAny_pyIter_range hr hsmall ?_
  have W := Walks.range (prog := prog) (w := w) hh s₁.heap.objs.size 0 1 n
  generalize ho : ({ cls := .type "range_iterator", dict := none, data := .fields #[rawInt 0, rawInt (Builtin.Range.rangeSize 0 b 1), rawInt 1], slots := #[] } : Obj) = o
  have up : ∀ b ob, s₁.heap.get? b = some ob → (s₁.heap.push o).get? b = some ob := fun b ob e => Heap.get?_push_of_some _ e
  have nI : ∀ b ob, s₁.heap.get? b = some ob → b ≠ s₁.heap.objs.size := fun b ob e => Nat.ne_of_lt (Heap.lt_size e)
  have back : ∀ b, (s₁.heap.push o).get? b = none → s₁.heap.get? b = none := fun b e => by
    cases q : s₁.heap.get? b with
    | none => rfl
    | some ob => rw [up b ob q] at e; cases e
  have fI : s₁.heap.get? s₁.heap.objs.size = none := by
    cases q : s₁.heap.get? s₁.heap.objs.size with
    | none => rfl
    | some ob => exact absurd (Heap.lt_size q) (Nat.lt_irrefl _)
  have keepM : ∀ {h' : Heap}, Keep ([s₁.heap.objs.size] ++ M) (s₁.heap.push o) h' → Keep M s₁.heap h' := fun {h'} K b ob nb e => K b ob (fun hm => by
    rcases List.mem_cons.mp hm with q | hm
    · exact nI b ob e q
    · exact nb hm) (up b ob e)
  have hst : IsRangeIter (s₁.heap.push o) s₁.heap.objs.size (0 + ((0 : Nat) : Int) * 1) ((n : Int) - ((0 : Nat) : Int)) 1 := by
    rw [← ho, hn]
    simpa using Heap.get?_push_size _ rfl
  refine block_inv (RR := fun acc C => compPost (model prog w) A E none Q acc C) W hsz Y M J hcell hkind hx hst ?_ ?_ ?_ ?_ ?_ ?_
  · intro b hb; rw [List.mem_singleton.mp hb]; show s₁.heap.objs.size < (s₁.heap.push o).objs.size; rw [Heap.size_push]; exact Nat.lt_succ_self _
  · intro b hb; obtain ⟨ob, e⟩ := hM b hb; exact Heap.lt_size (up b ob e)
  · intro b hb hm; obtain ⟨ob, e⟩ := hM b hm; exact nI b ob e (List.mem_singleton.mp hb)
  · intro D C h'' hD hC K
    refine h0 h'' fun b ob nb e => K b ob (fun hm => ?_) (up b ob e)
    rcases List.mem_append.mp hm with hm | hm
    · rcases List.mem_cons.mp hm with q | hm
      · rw [q, back D hD] at e; cases e
      · rcases List.mem_cons.mp hm with q | hm
        · rw [q, back C hC] at e; cases e
        · exact nI b ob e (List.mem_singleton.mp hm)
    · exact nb hm
  · intro D C i v s₃ m₃ ys hD hC hi hv hn hm hk hl hys hst3 hJ
    obtain ⟨t', rfl⟩ := hv
    have e0 : (0 : Int) + (i : Int) * 1 = (i : Int) := by omega
    rw [e0] at hm
    refine hE (D :: C :: [s₁.heap.objs.size] ++ Y) D C i t' s₃ m₃ ys.toList (back D hD) (back C hC) ?_ ?_ (by rw [Array.toArray_toList]; exact hl) hi (by rw [Array.length_toList]; exact hys) hn hm (keepM hk) hJ
    · intro z hz
      rcases List.mem_append.mp hz with hz | hz
      · rcases List.mem_cons.mp hz with q | hz
        · rw [q]; exact .inr (back D hD)
        · rcases List.mem_cons.mp hz with q | hz
          · rw [q]; exact .inr (back C hC)
          · rw [List.mem_singleton.mp hz]; exact .inr fI
      · exact .inl hz
    · intro z hz hzY
      rcases List.mem_append.mp hz with hz | hz
      · rcases List.mem_cons.mp hz with q | hz
        · exact .inl q
        · rcases List.mem_cons.mp hz with q | hz
          · obtain ⟨ob, es, ep, e, hd, _⟩ := hn
            exact .inr ⟨ob, q ▸ e, fun items k q' => by rw [hd] at q'; cases q'⟩
          · rw [List.mem_singleton.mp hz]
            exact .inr ⟨_, hst3, fun items k q' => by cases q'⟩
      · exact absurd hz hzY
  · intro D C h' tk m' ys hD hC hDC hn hl hys hJ hk
    refine ⟨m', hn, fun h3 hs3 => ?_⟩
    have k3 : ∀ b o, b ≠ C → h'.get? b = some o → h3.get? b = some o := fun b o n e => hs3.extBut b o n e
    obtain ⟨kk, eD⟩ := hl
    have KM := keepM hk
    refine hfin D h3 tk ys.toList kk (back D hD) ?_ (by rw [Array.length_toList]; exact hys) (hJ h3 fun b o nb e => k3 b o (fun q => nb (q ▸ .tail _ (.head _))) e) fun b o nb e => k3 b o (fun q => by rw [q, back C hC] at e; cases e) (KM b o nb e)
    rw [Array.toArray_toList]; exact k3 _ _ hDC eD
end
/-- the drawn gates and their rows -/
noncomputable def Drawn1 (h : Heap) (ns : List Node) (wn : Nat) (v : Value) (p : Int × List Bool) : Prop := IsPair h v p.1 p.2 ∧ PG ns wn p.1 p.2
theorem drawn_keep {h h' : Heap} {Z : List Addr} {ns : List Node} {wn : Nat} {vs : List Value} {ps : List (Int × List Bool)} (K : Keep Z h h') (q : Quiet h Z) (x : Paired (Drawn1 h ns wn) vs ps) : Paired (Drawn1 h' ns wn) vs ps := x.mono fun _ _ ⟨a, b⟩ => ⟨a.keepQ K q b.ne, b⟩
theorem drawn_first {h : Heap} {ns : List Node} {wn : Nat} {vs : List Value} {ps : List (Int × List Bool)} (x : Paired (Drawn1 h ns wn) vs ps) (b : Bool) : vs[0]? ≠ some (.bool b) := by
  cases x with
  | nil => intro q; cases q
  | cons f _ => obtain ⟨⟨p, t, ra, rfl, _⟩, _⟩ := f; intro q; cases q
theorem paired_snoc {α β : Type} {F : α → β → Prop} {as : List α} {bs : List β} (x : Paired F as bs) {a : α} {b : β} (f : F a b) : Paired F (as ++ [a]) (bs ++ [b]) := by
  induction x with
  | nil => exact .cons f .nil
  | cons g _ ih => exact .cons g ih
theorem drawn_unique {h : Heap} {ns : List Node} {wn : Nat} {v : Value} {p q : Int × List Bool} (a : Drawn1 h ns wn v p) (b : Drawn1 h ns wn v q) : p = q := by
  obtain ⟨⟨pa, t, ra, rfl, ⟨o, e, _, k, d⟩, _⟩, pg⟩ := a
  obtain ⟨⟨pb, t', rb, e1, ⟨o', e', _, k', d'⟩, _⟩, pg'⟩ := b
  cases e1
  rw [e] at e'; cases e'
  rw [d] at d'
  have hx : p.1 = q.1 := by
    simp only [Data.seq.injEq] at d'
    have := d'.1
    simp only [Array.mk.injEq, List.cons.injEq, Value.int.injEq] at this
    exact this.1.1
  refine Prod.ext hx ?_
  rw [pg.2, pg'.2, hx]
theorem paired_cols {h : Heap} {ns : List Node} {wn : Nat} {G : Int × List Bool → Value → Prop} : ∀ {vs ys : List Value} {prs : List (Int × List Bool)}, Paired (Drawn1 h ns wn) vs prs → Paired (fun v y => ∃ q, Drawn1 h ns wn v q ∧ G q y) vs ys → Paired G prs ys
  | _, _, _, .nil, b => by cases b; exact .nil
  | _, _, _, .cons a ar, b => by
    cases b with
    | cons f br =>
      obtain ⟨q, hq, g⟩ := f
      exact .cons (drawn_unique a hq ▸ g) (paired_cols ar br)
theorem paired_map {f : Int × List Bool → Value} : ∀ {prs : List (Int × List Bool)} {ys : List Value}, Paired (fun q y => y = f q) prs ys → ys = prs.map f
  | _, _, .nil => rfl
  | _, _, .cons a b => by rw [List.map_cons, a, paired_map b]
theorem paired_ints : ∀ {prs : List (Int × List Bool)} {ys : List Value}, Paired (fun q y => ∃ t, y = Value.int q.1 t) prs ys → IntsAre ys (prs.map (·.1))
  | _, _, .nil => .nil
  | _, _, .cons a b => by obtain ⟨t, rfl⟩ := a; exact .cons _ _ (paired_ints b)
theorem drawn_pg {h : Heap} {ns : List Node} {wn : Nat} : ∀ {vs : List Value} {prs : List (Int × List Bool)}, Paired (Drawn1 h ns wn) vs prs → ∀ q ∈ prs, PG ns wn q.1 q.2
  | _, _, .nil, _, h => nomatch h
  | _, _, .cons a b, q, h => by
    rcases List.mem_cons.mp h with rfl | h
    · exact a.2
    · exact drawn_pg b q h
theorem row_deed {ns : List Node} {wn : Nat} {kd : Int} {prs : List (Int × List Bool)} (hp : ∀ q ∈ prs, PG ns wn q.1 q.2) : ((List.range (2 ^ wn)).map fun m => deed kd (prs.map fun q => q.2.getD m false)) = (List.range (2 ^ wn)).map fun m => deed kd ((prs.map (·.1)).map (lit (inpF wn m) ns)) := by
  refine List.map_congr_left fun m hm => ?_
  rw [List.map_map]
  congr 1
  exact List.map_congr_left fun q hq => (hp q hq).at_ (List.mem_range.mp hm)
theorem paired_rows {f : Nat → Bool} {n : Nat} {ys : List Value} (hl : ys.length = n) (h : ∀ j u, ys[j]? = some u → u = Value.bool (f j)) : ys = ((List.range n).map f).map Value.bool := by
  refine List.ext_getElem (by simp [hl]) fun j h1 h2 => ?_
  rw [h j _ (List.getElem?_eq_getElem h1)]; simp
theorem keepL_of {g h h' : Heap} {L : Addr} {led R : List (Addr × Obj)} (N : News g L h led) (N' : News g L h' (led ++ R)) (K : Keep (L :: led.map (·.1)) h h') : Keep [L] h h' := fun b o nb e => by
  by_cases hb : b ∈ led.map (·.1)
  · obtain ⟨p, hp, rfl⟩ := List.mem_map.mp hb
    have := (N p hp).1
    rw [this] at e; cases e
    exact (N' p (List.mem_append_left _ hp)).1
  · exact K b o (fun hm => (List.mem_cons.mp hm).elim (fun q => nb (q ▸ .head _)) hb) e
section
variable {prog : Program} {w : World} {A : Around} {E : Value → Shared → Prop} {s : Shared}
theorem repr2 {l : Addr} {b1 b2 : Bool} {k : Nat} {Q : Value → Shared → Prop} (e : s.heap.get? l = some (listOf #[.bool b1, .bool b2] k)) (hg : A.guards = some []) (hu : A.units ≤ 9000)
    (hQ : ∀ h' u tk, s.heap.StaysIn h' → Q (.str (PyData.list [.bool b1, .bool b2]).shown u) { s with heap := h', toks := tk }) : wpAny (model prog w) A (call (.builtin "repr") [.ref l]) Q E s := by
  refine repr_of_reads' (h₀ := s.heap) (d := .list [.bool b1, .bool b2]) (.list e rfl rfl (.cons (.bool b1) (.cons (.bool b2) .nil))) ?_ ?_ hg ?_ (fun _ _ e => e) hQ ?_
  · cases b1 <;> cases b2 <;> decide
  · intro q; cases b1 <;> cases b2 <;> exact absurd q (by decide)
  · have : (PyData.list [.bool b1, .bool b2]).depth ≤ 10 := by cases b1 <;> cases b2 <;> decide
    show A.units + _ < 9900
    omega
  · cases b1 <;> cases b2 <;> decide
end
theorem nl_le {a wn i : Nat} (h : a ≤ 2 + wn + 3 * i) (hw : wn ≤ 3) (hi : i ≤ 8) : a ≤ 100 := by omega
theorem gl_le {x wn i : Nat} (h : x = 1 + wn + i) (hw : wn ≤ 3) (hi : i ≤ 8) : 1 ≤ x ∧ x ≤ 100 := by omega
theorem k_small {k : Int} {i : Nat} (h0 : 0 ≤ k) (h : k ≤ 2 + 10 * (i : Int)) (hi : i ≤ 8) : k ≤ 1000 ∧ 0 ≤ k + 1 ∧ k + 1 ≤ 1000 := by omega
theorem k_le {k k' : Int} {i j : Nat} (k0 : 0 ≤ k') (k1 : k' ≤ k + 2) (k2 : k ≤ 2 + 10 * (i : Int)) (hi : i ≤ 8) (hj : j ≤ 4) : 0 ≤ k' + 2 * (j : Int) ∧ k' + 2 * (j : Int) ≤ 900 := by omega
theorem k_in {k k' : Int} {j : Nat} (k0 : 0 ≤ k') (hj : j ≤ 4) : 0 ≤ k' + 2 * (j : Int) ∧ k' + 2 * (j : Int) ≤ k' + 8 := by omega
theorem k_next {k k' k'' : Int} {i : Nat} (k1 : k ≤ 2 + 10 * (i : Int)) (k2 : k' ≤ k + 2) (k3 : k'' ≤ k' + 8) : k'' ≤ 2 + 10 * ((i + 1 : Nat) : Int) := by omega
theorem nl_next {a b wn i : Nat} (h : a ≤ 2 + wn + 3 * i) (h2 : b ≤ a + 3) : b ≤ 2 + wn + 3 * (i + 1) := by omega
theorem num_le {i pn : Nat} (h : i < pn) (hp : pn ≤ 8) : 0 ≤ (i : Int) ∧ (i : Int) ≤ 7 := by omega
theorem cn_two {kd : Int} {cn : Nat} (kd7 : kd ≤ 7) (cn2 : 2 ≤ kd → kd < 7 → cn = 2) (cn3 : kd = 7 → cn = 3) (h : 2 ≤ kd) : 2 ≤ cn := by
  rcases Int.lt_or_eq_of_le kd7 with q | q
  · rw [cn2 h q]; decide
  · rw [cn3 q]; decide
theorem small_n {n : Nat} (h : n ≤ 100) : Builtin.Range.small 0 (n : Int) 1 = true := small_one (by omega) (by omega) (by omega) (by omega)
theorem size_n {n : Nat} : Builtin.Range.rangeSize 0 (n : Int) 1 = (n : Int) := by rw [rangeSize_nat]; simp
theorem line_n {n : Nat} (h : n ≤ 100) : n ≤ sizeLine := by rw [sizeLine_eq]; omega
noncomputable abbrev mT (m0 : Str → Option Value) (r q p : Option Value) : Str → Option Value := fun z => if z = Str.ofString "row" then r else if z = Str.ofString "count" then q else if z = Str.ofString "lap" then p else m0 z
theorem fr_eqm {g h : Heap} {L : Addr} {m m' : Str → Option Value} (F : Fr g L h m) (e : m = m') : Fr g L h m' := e ▸ F
theorem mT_none (m0 : Str → Option Value) {r q p : Option Value} (h1 : m0 (Str.ofString "row") = r) (h2 : m0 (Str.ofString "count") = q) (h3 : m0 (Str.ofString "lap") = p) : m0 = mT m0 r q p := by
  funext z
  show m0 z = if z = Str.ofString "row" then r else if z = Str.ofString "count" then q else if z = Str.ofString "lap" then p else m0 z
  by_cases e1 : z = Str.ofString "row"
  · rw [if_pos e1, e1, h1]
  · by_cases e2 : z = Str.ofString "count"
    · rw [if_neg e1, if_pos e2, e2, h2]
    · by_cases e3 : z = Str.ofString "lap"
      · rw [if_neg e1, if_neg e2, if_pos e3, e3, h3]
      · rw [if_neg e1, if_neg e2, if_neg e3]
theorem mT_lap (m0 : Str → Option Value) {r q p x : Option Value} : (fun z => if z = Str.ofString "lap" then x else mT m0 r q p z) = mT m0 r q x := by
  funext z
  show (if z = Str.ofString "lap" then x else if z = Str.ofString "row" then r else if z = Str.ofString "count" then q else if z = Str.ofString "lap" then p else m0 z) = if z = Str.ofString "row" then r else if z = Str.ofString "count" then q else if z = Str.ofString "lap" then x else m0 z
  by_cases e3 : z = Str.ofString "lap"
  · subst e3
    rw [if_pos rfl, if_neg (by decide), if_neg (by decide), if_pos rfl]
  · simp only [if_neg e3]
theorem mT_count (m0 : Str → Option Value) {r q p x : Option Value} : (fun z => if z = Str.ofString "count" then x else mT m0 r q p z) = mT m0 r x p := by
  funext z
  show (if z = Str.ofString "count" then x else if z = Str.ofString "row" then r else if z = Str.ofString "count" then q else if z = Str.ofString "lap" then p else m0 z) = if z = Str.ofString "row" then r else if z = Str.ofString "count" then x else if z = Str.ofString "lap" then p else m0 z
  by_cases e3 : z = Str.ofString "count"
  · subst e3
    rw [if_pos rfl, if_neg (by decide), if_pos rfl]
  · simp only [if_neg e3]
theorem mT_row (m0 : Str → Option Value) {r q p x : Option Value} : (fun z => if z = Str.ofString "row" then x else mT m0 r q p z) = mT m0 x q p := by
  funext z
  show (if z = Str.ofString "row" then x else if z = Str.ofString "row" then r else if z = Str.ofString "count" then q else if z = Str.ofString "lap" then p else m0 z) = if z = Str.ofString "row" then x else if z = Str.ofString "count" then q else if z = Str.ofString "lap" then p else m0 z
  by_cases e3 : z = Str.ofString "row"
  · simp only [if_pos e3]
  · simp only [if_neg e3]
noncomputable abbrev mU (m0 : Str → Option Value) (r g t n : Option Value) : Str → Option Value := fun z => if z = Str.ofString "row" then r else if z = Str.ofString "gate" then g else if z = Str.ofString "told" then t else if z = Str.ofString "number" then n else m0 z
theorem mU_row (m0 : Str → Option Value) {r g t n x : Option Value} : (fun z => if z = Str.ofString "row" then x else mU m0 r g t n z) = mU m0 x g t n := by
  funext z
  show (if z = Str.ofString "row" then x else if z = Str.ofString "row" then r else if z = Str.ofString "gate" then g else if z = Str.ofString "told" then t else if z = Str.ofString "number" then n else m0 z) = if z = Str.ofString "row" then x else if z = Str.ofString "gate" then g else if z = Str.ofString "told" then t else if z = Str.ofString "number" then n else m0 z
  by_cases e : z = Str.ofString "row"
  · subst e
    rw [if_pos rfl, if_pos rfl]
  · simp only [if_neg e]
theorem mU_gate (m0 : Str → Option Value) {r g t n x : Option Value} : (fun z => if z = Str.ofString "gate" then x else mU m0 r g t n z) = mU m0 r x t n := by
  funext z
  show (if z = Str.ofString "gate" then x else if z = Str.ofString "row" then r else if z = Str.ofString "gate" then g else if z = Str.ofString "told" then t else if z = Str.ofString "number" then n else m0 z) = if z = Str.ofString "row" then r else if z = Str.ofString "gate" then x else if z = Str.ofString "told" then t else if z = Str.ofString "number" then n else m0 z
  by_cases e : z = Str.ofString "gate"
  · subst e
    rw [if_pos rfl, if_neg (by decide), if_pos rfl]
  · simp only [if_neg e]
theorem mU_told (m0 : Str → Option Value) {r g t n x : Option Value} : (fun z => if z = Str.ofString "told" then x else mU m0 r g t n z) = mU m0 r g x n := by
  funext z
  show (if z = Str.ofString "told" then x else if z = Str.ofString "row" then r else if z = Str.ofString "gate" then g else if z = Str.ofString "told" then t else if z = Str.ofString "number" then n else m0 z) = if z = Str.ofString "row" then r else if z = Str.ofString "gate" then g else if z = Str.ofString "told" then x else if z = Str.ofString "number" then n else m0 z
  by_cases e : z = Str.ofString "told"
  · subst e
    rw [if_pos rfl, if_neg (by decide), if_neg (by decide), if_pos rfl]
  · simp only [if_neg e]
theorem mU_number (m0 : Str → Option Value) {r g t n x : Option Value} : (fun z => if z = Str.ofString "number" then x else mU m0 r g t n z) = mU m0 r g t x := by
  funext z
  show (if z = Str.ofString "number" then x else if z = Str.ofString "row" then r else if z = Str.ofString "gate" then g else if z = Str.ofString "told" then t else if z = Str.ofString "number" then n else m0 z) = if z = Str.ofString "row" then r else if z = Str.ofString "gate" then g else if z = Str.ofString "told" then t else if z = Str.ofString "number" then x else m0 z
  by_cases e : z = Str.ofString "number"
  · subst e
    rw [if_pos rfl, if_neg (by decide), if_neg (by decide), if_neg (by decide), if_pos rfl]
  · simp only [if_neg e]
theorem mU_none (m0 : Str → Option Value) {r g t n : Option Value} (h1 : m0 (Str.ofString "row") = r) (h2 : m0 (Str.ofString "gate") = g) (h3 : m0 (Str.ofString "told") = t) (h4 : m0 (Str.ofString "number") = n) : m0 = mU m0 r g t n := by
  funext z
  show m0 z = if z = Str.ofString "row" then r else if z = Str.ofString "gate" then g else if z = Str.ofString "told" then t else if z = Str.ofString "number" then n else m0 z
  by_cases e1 : z = Str.ofString "row"
  · rw [if_pos e1, e1, h1]
  · by_cases e2 : z = Str.ofString "gate"
    · rw [if_neg e1, if_pos e2, e2, h2]
    · by_cases e3 : z = Str.ofString "told"
      · rw [if_neg e1, if_neg e2, if_pos e3, e3, h3]
      · by_cases e4 : z = Str.ofString "number"
        · rw [if_neg e1, if_neg e2, if_neg e3, if_pos e4, e4, h4]
        · rw [if_neg e1, if_neg e2, if_neg e3, if_neg e4]
end Mine
end
section
set_option linter.all false
open PySem PySem.W PyProof.Rows PySem.Calls PyProof.V PySem.Spec
set_option maxRecDepth 100000
namespace Mine
theorem wordsNuVal : True := by
  w_top off
  k_with_none
  k_with "call ref" => (k_here; (with_reducible show wpAny _ _ (call (Value.ref 164) [Value.ref _, Value.int _ _]) _ _ _); k_dflt (refine' next_K ?F ?N ?X ?T ?U ?dp ?un ?d ?k0 ?k1 ?w ?w2 ?c ?i ?ns ?ca ?_; (case F => k_asm); (case N => k_asm); (case X => k_asm); (case T => k_asm); (case U => k_updF); (case dp => omega); (case un => omega); (case d => k_asm); (case c => is_list); (case i => assumption); (case k0 => omega); (case k1 => omega); (case w => omega); (case w2 => omega); (case ns => assumption); (case ca => assumption)); intro h'ω o'ω r'ω tr'ω tk'ω tq'ω F'ω N'ω d'ω r0'ω r1'ω kp'ω; (try dsimp only at N'ω))
  k_with "call builtin:len" => (k_here; (with_reducible show wpAny _ _ (call (Value.builtin "len") [Value.ref _]) _ _ _); k_dflt (refine' len_G ?l ?z ?_; (case l => is_list); (case z => omega)))
  k_with "subscriptTail" => (k_here; (with_reducible show wpAny _ _ (subscriptTail _ _ (Value.ref _) (Value.int _ _)) _ _ _); k_dflt (refine' item_G ?l ?k0 ?k1 ?z ?_ ?hs; (case l => is_list); (case k0 => first | assumption | omega); (case k1 => first | assumption | omega); (case z => first | assumption | omega); (case hs => with_unfolding_all rfl)); intro v'ω hv'ω)
  k_with "eval ListComp" => (k_here; refine stop_intro ?_)
  k_with "eval Name" => (k_dflt (refine' name_loc ?n ?v ?k ?l ?d ?_; (case n => assumption); (case v => assumption); (case k => exact rfl); (case l => exact rfl); (case d => decide)))
  k_with "subscriptTail" => (k_here; (with_reducible show wpAny _ _ (subscriptTail _ _ (Value.ref _) (Value.int _ _)) _ _ _); k_dflt (refine' item_bools ?l ?k0 ?k1 ?z ?_ ?hs; (case l => is_list); (case k0 => first | assumption | omega); (case k1 => first | assumption | omega); (case z => first | assumption | omega); (case hs => with_unfolding_all rfl)))
  k_with "compareOp In" => (k_here; (with_reducible show wpAny _ _ (compareOp CmpOp.In (Value.bool _) (Value.ref _)) _ _ _); k_dflt (refine' in_bools ?l ?_; (case l => is_list)))
  k_with "compareOp NotIn" => (k_here; (with_reducible show wpAny _ _ (compareOp CmpOp.NotIn (Value.bool _) (Value.ref _)) _ _ _); k_dflt (refine' notin_bools ?l ?_; (case l => is_list)))
  k_with "exec For" => (k_here; refine stop_intro ?_)
  k_with "exec For Name Call cons nil" => (k_here; refine stop_intro ?_)
  k_with "exec For Name Name cons nil" => (k_here; refine stop_intro ?_)
  k_with "exec For Tuple Name cons nil" => (k_here; refine stop_intro ?_)
  k_with "exec For Name Attribute cons nil" => (k_here; refine stop_intro ?_)
  k_with "setItem ref int" => (k_here; k_dflt (refine' kda_set (knd := PySem.intKind _ _) ?F ?N ?U ?d (intKind_is _ _ _ _) ?z ?_; (case F => k_asm); (case N => k_asm); (case U => k_updF); (case d => k_asm); (case z => (rw [sizeLine_eq]; omega))); intro h'ω o'ω F'ω N'ω hd'ω; (try dsimp only at N'ω))
  k_with "call builtin:len" => (k_here; (with_reducible show wpAny _ _ (call (Value.builtin "len") [Value.ref _]) _ _ _); k_dflt (refine' len_A ?l ?z ?_; (case l => is_list); (case z => (simp only [Array.size_push, List.size_toArray]; omega))))
  k_with "compareOp In" => (k_here; (with_reducible show wpAny _ _ (compareOp CmpOp.In (Value.int _ _) (Value.ref _)) _ _ _); k_dflt (refine' kda_in (knd := PySem.intKind _ _) ?N ?mem ?hd ?lo (intKind_is _ _ _ _) _ rfl ?_; (case N => k_asm); (case mem => k_mem); (case hd => k_asm); (case lo => assumption)))
  k_with "newTuple" => (k_here; k_dflt (refine' newTuple_S ?F ?N ?_ ?z; (case F => k_asm); (case N => k_asm); (case z => kmk_size)); intro D'ω h'ω St'ω F'ω N'ω l1ω; (try k_lt l1ω))
  k_with "exec While" => (k_here; refine stop_intro ?_)
  k_with "exec While Compare" => (k_here; refine stop_intro ?_)
  k_with "subscriptTail Name UnaryOp ref int" => (k_here; (with_reducible show wpAny _ _ (subscriptTail _ _ (Value.ref _) (Value.int (-1) _)) _ _ _); refine stop_intro ?_)
  k_with "exec Assign cons ListComp" => (k_here; refine stop_intro ?_)
  k_with "eval Name" => (k_dflt (refine' name_blt ?X ?T ?e ?hv ?hn ?hk ?hl ?hg ?hb ?hd ?_; (case X => with_reducible assumption); (case T => with_reducible assumption); (case e => k_is); (case hv => boot_fast); (case hn => decide); (case hk => exact rfl); (case hl => exact rfl); (case hg => exact rfl); (case hb => exact rfl); (case hd => decide)))
  k_with "eval Name" => ((with_reducible show wpAny _ _ (eval (Expr.Name (Str.ofString "known") _) (compEnvC _ _ _ _)) _ _ _); refine stop_intro ?_)
  k_with "compareOp NotIn" => (k_here; (with_reducible show wpAny _ _ (compareOp CmpOp.NotIn (Value.int _ _) (Value.ref _)) _ _ _); k_dflt (refine' dc_notin (knd := PySem.intKind _ _) ?D ?lo (intKind_is _ _ _ _) ?_; (case D => first | with_reducible assumption | exact kda_dict (by k_asm) (by k_mem) (by k_asm)); (case lo => assumption)))
  k_with "getMethod ref" => (k_here; (with_reducible show wpAny _ _ (getMethod (Value.ref _) (Str.ofString "get") _) _ _ _); k_dflt (refine' dm_get ?D ?_; (case D => exact dict_stay (Fr.keep (by k_asm)) (by with_reducible assumption))))
  k_with "call builtin:dict.get" => (k_here; (with_reducible show wpAny _ _ (call (Value.builtin "dict.get") [Value.ref _, Value.int _ _, _]) _ _ _); k_dflt (refine' dc_get2 (knd := PySem.intKind _ _) ?D ?lo (intKind_is _ _ _ _) ?_; (case D => exact dict_stay (Fr.keep (by k_asm)) (by with_reducible assumption)); (case lo => assumption)))
  trivial
theorem parts_len {ns : List Node} {kn : Kn} (G : Good ns kn) {i : Nat} {nd : Node} (h : ns[i]? = some nd) : nd.parts.length ≤ 8 := by
  cases nd with
  | conj ps => exact (G.parts i ps h).1
  | _ => exact Nat.zero_le _
theorem lit_inp {inp : Nat → Bool} {ns : List Node} {i : Nat} (h : ns[i]? = some .inp) (h0 : 0 < i) : lit inp ns (i : Int) = inp i := by
  obtain ⟨pre, more, e, l, v⟩ := vals_at (inp := inp) h
  unfold lit litOf
  rw [show ((i : Int)).natAbs = i from rfl, v, decide_eq_true (by omega)]
  simp only [beq_true]
  show inp (vals inp pre).length = inp i
  rw [vals_len, l]
theorem lit_node {inp : Nat → Bool} {ns : List Node} {kn : Kn} (G : Good ns kn) {i : Nat} {nd : Node} (h : ns[i]? = some nd) (h0 : 0 < i) (hn : nd.kind ≠ Str.ofString "input") : lit inp ns (i : Int) = nd.parts.all (lit inp ns) := by
  cases nd with
  | conj ps => exact lit_conj G h h0
  | inp => exact absurd rfl hn
  | _ =>
    obtain ⟨pre, more, e, l, v⟩ := vals_at (inp := inp) h
    unfold lit litOf
    rw [show ((i : Int)).natAbs = i from rfl, v, decide_eq_true (by omega)]
    rfl
theorem kind_inp {nd : Node} (h : nd.kind = Str.ofString "input") : nd = .inp := by
  cases nd with
  | inp => rfl
  | conj ps => exact absurd h (show ¬ Str.ofString "and" = Str.ofString "input" from by decide)
  | junk => exact absurd h (show ¬ Str.ofString "" = Str.ofString "input" from by decide)
  | tru => exact absurd h (show ¬ Str.ofString "true" = Str.ofString "input" from by decide)
theorem step_more {K : Kv} {ps : List Int} : (∀ m ∈ (ps.filter fun z => !(valueAt K (z.natAbs : Int)).isSome).map Int.natAbs, m ∈ ps.map Int.natAbs ∧ ¬ has K m) ∧ ∀ m ∈ ps.map Int.natAbs, has K m ∨ m ∈ (ps.filter fun z => !(valueAt K (z.natAbs : Int)).isSome).map Int.natAbs := by
  constructor
  · intro m hm
    obtain ⟨z, hz, rfl⟩ := List.mem_map.mp hm
    obtain ⟨h1, h2⟩ := List.mem_filter.mp hz
    refine ⟨List.mem_map_of_mem h1, fun q => ?_⟩
    unfold has at q
    rw [q] at h2; cases h2
  · intro m hm
    obtain ⟨z, hz, rfl⟩ := List.mem_map.mp hm
    cases q : (valueAt K (z.natAbs : Int)).isSome with
    | true => exact .inl q
    | false => exact .inr (List.mem_map_of_mem (List.mem_filter.mpr ⟨hz, by rw [q]; rfl⟩))
theorem has_stored {K : Kv} {x y : Nat} {v : Value} (h : has K y ∨ y = x) : has (stored K (x : Int) v) y := by
  unfold has
  rw [valueAt_stored']
  split
  · rfl
  · rename_i hne
    exact h.resolve_right fun q => hne (by rw [q])
theorem ints_snoc {vs : List Value} {S : List Int} {x : Int} (h : IntsAre vs (S ++ [x])) : ∃ vs' t, vs = vs' ++ [.int x t] ∧ IntsAre vs' S := by
  induction S generalizing vs with
  | nil =>
    obtain ⟨t, vs', rfl, h'⟩ := h.cons_inv
    have := h'.nil_inv
    subst this
    exact ⟨[], t, rfl, .nil⟩
  | cons y S ih =>
    obtain ⟨t, vs', rfl, h'⟩ := h.cons_inv
    obtain ⟨vs2, t2, rfl, h2⟩ := ih h'
    exact ⟨.int y t :: vs2, t2, rfl, .cons _ _ h2⟩
theorem lit_abs {inp : Nat → Bool} {ns : List Node} {x : Int} (h : 0 < x.natAbs) : lit inp ns x = (lit inp ns (x.natAbs : Int) == decide (0 < x)) := by
  unfold lit litOf
  rw [show ((x.natAbs : Int)).natAbs = x.natAbs from rfl, decide_eq_true (show (0 : Int) < (x.natAbs : Int) by omega)]
  simp
noncomputable def testOf (K : Kv) : Value → Bool
  | .int z _ => !(valueAt K (z.natAbs : Int)).isSome
  | _ => false
noncomputable def absOf (v y : Value) : Prop := ∃ z t t', v = .int z t ∧ y = .int ((z.natAbs : Nat) : Int) t'
theorem paired_abs {K : Kv} {ps : List Int} : ∀ {vs ys : List Value}, IntsAre vs ps → Paired absOf (vs.filter (testOf K)) ys → IntsAre ys (((ps.filter fun z => !(valueAt K (z.natAbs : Int)).isSome).map Int.natAbs).map Int.ofNat) := by
  intro vs ys hi
  induction hi generalizing ys with
  | nil => intro h; cases h; exact .nil
  | cons n t _ ih =>
    intro h
    by_cases hc : (!(valueAt K (n.natAbs : Int)).isSome) = true
    · have hp : testOf K (.int n t) = true := hc
      rw [List.filter_cons_of_pos hp] at h
      rw [show (n :: _).filter (fun z : Int => !(valueAt K (z.natAbs : Int)).isSome) = n :: _ from List.filter_cons_of_pos hc]
      cases h with
      | cons h1 h2 =>
        obtain ⟨n', t1, t2, e1, rfl⟩ := h1
        cases e1
        exact .cons _ _ (ih h2)
    · have hp : ¬ testOf K (.int n t) = true := hc
      rw [List.filter_cons_of_neg hp] at h
      rw [show (n :: _).filter (fun z : Int => !(valueAt K (z.natAbs : Int)).isSome) = _ from List.filter_cons_of_neg hc]
      exact ih h
theorem nodup_le : ∀ (n : Nat) (l : List Int), l.Nodup → (∀ k ∈ l, 0 ≤ k ∧ k < (n : Int)) → l.length ≤ n
  | 0, [], _, _ => Nat.le_refl _
  | 0, k :: _, _, h => absurd (h k (.head _)) (by omega)
  | n + 1, l, hn, h => by
    by_cases hm : (n : Int) ∈ l
    · have h1 := nodup_le n (l.erase (n : Int)) (hn.erase _) fun k hk => by
        have h2 := (hn.mem_erase_iff).mp hk
        have := h k h2.2
        have := h2.1
        omega
      rw [List.length_erase_of_mem hm] at h1
      omega
    · have := nodup_le n l hn fun k hk => by
        have h1 := h k hk
        have : k ≠ (n : Int) := fun q => hm (q ▸ hk)
        omega
      omega
noncomputable def bitOf (inp : Nat → Bool) (ns : List Node) (v y : Value) : Prop := ∃ z t, v = .int z t ∧ y = .bool (lit inp ns z)
theorem paired_bits {inp : Nat → Bool} {ns : List Node} {ps : List Int} : ∀ {vs ys : List Value}, IntsAre vs ps → Paired (bitOf inp ns) vs ys → LSm.BoolsAre ys (ps.map (lit inp ns)) := by
  intro vs ys hi
  induction hi generalizing ys with
  | nil => intro h; cases h; exact .nil
  | cons n t _ ih =>
    intro h
    cases h with
    | cons h1 h2 =>
      obtain ⟨n', t1, e1, rfl⟩ := h1
      cases e1
      exact .cons _ (ih h2)
noncomputable def KOk (inp : Nat → Bool) (ns : List Node) (K : Kv) : Prop := (∀ k v, valueAt K k = some v → v = .bool (lit inp ns k) ∧ 0 < k) ∧ (K.map (·.1)).Nodup ∧ ∀ k ∈ K.map (·.1), 0 ≤ k ∧ k < (ns.length : Int)
theorem KOk.len {inp : Nat → Bool} {ns : List Node} {K : Kv} (h : KOk inp ns K) : K.length ≤ ns.length := by
  have := nodup_le ns.length (K.map (·.1)) h.2.1 h.2.2
  rwa [List.length_map] at this
theorem stored_key {K : Kv} {x : Int} {v : Value} : (stored K x v).map (·.1) = K.map (·.1) ∨ (x ∉ K.map (·.1) ∧ (stored K x v).map (·.1) = K.map (·.1) ++ [x]) := by
  unfold stored
  split
  · left
    rw [List.map_map]
    refine List.map_congr_left fun p _ => ?_
    by_cases e : p.1 = x <;> simp [e]
  · rename_i h
    right
    refine ⟨fun hm => h ?_, by simp⟩
    obtain ⟨p, hp, e⟩ := List.mem_map.mp hm
    exact List.any_eq_true.mpr ⟨p, hp, by simpa using e⟩
noncomputable abbrev valMap (ri di l : Addr) (x : Int) (t : Tok) : Str → Option Value := fun y => if y = Str.ofString "stack" then some (.ref l) else if y = Str.ofString "inputs" then some (.ref di) else if y = Str.ofString "g" then some (.int x t) else if y = Str.ofString "self" then some (.ref ri) else none
theorem KOk.stored {inp : Nat → Bool} {ns : List Node} {K : Kv} (h : KOk inp ns K) {x : Nat} {v : Value} (hx : 0 < x) (hxn : x < ns.length) (hv : v = .bool (lit inp ns (x : Int))) : KOk inp ns (stored K (x : Int) v) := by
  refine ⟨fun k u hu => ?_, ?_, ?_⟩
  · rw [valueAt_stored'] at hu
    split at hu
    · rename_i e; cases hu; rw [e]; exact ⟨hv, by omega⟩
    · exact h.1 k u hu
  · rcases stored_key (K := K) (x := (x : Int)) (v := v) with e | ⟨hn, e⟩
    · rw [e]; exact h.2.1
    · rw [e]
      refine List.nodup_append.mpr ⟨h.2.1, by simp, fun a ha b hb q => hn ?_⟩
      rw [List.mem_singleton.mp hb] at q
      exact q ▸ ha
  · intro k hk
    rcases stored_key (K := K) (x := (x : Int)) (v := v) with e | ⟨hn, e⟩
    · rw [e] at hk; exact h.2.2 k hk
    · rw [e] at hk
      rcases List.mem_append.mp hk with hk | hk
      · exact h.2.2 k hk
      · rw [List.mem_singleton.mp hk]; omega
section
variable {w : World} {mean : ExcName → Option Value} {mg mb : Str → Option Value} {hs : Heap} {dp un : Nat} {fr : Option (List Env)} {gd : Option (List Code)} {s : Shared} {Q E : Value → Shared → Prop}
noncomputable abbrev readDict (P : Params) (a : CA) (t : Tok) (n : Nat) : Obj := dictOf [⟨PyData.keyHash P (Str.ofString "circuit"), .str (Str.ofString "circuit") t, .ref a.ci⟩] n
inductive VInv (w : World) (g : Heap) (L' ri di l dK : Addr) (x : Int) (t : Tok) (s : Shared) (inp : Nat → Bool) (ns : List Node) (K : Kv) (S : List Nat) (s' : Shared) : Prop
  | mk : ∀ h tk oK vs nS oc b1 b2, (s' = { s with heap := h, toks := tk }) → (Fr g L' h (fun y => if y = Str.ofString "missing" then b1 else if y = Str.ofString "here" then b2 else valMap ri di l x t y)) → (News g L' h [(l, listOf vs.toArray nS), (dK, oK), (L' + 1, oc)]) → (IntsAre vs (S.map Int.ofNat)) → (oK.IsDictOf (iK w) K) → (oc.data = .cell (some (.ref dK))) → (KOk inp ns K) → VInv w g L' ri di l dK x t s inp ns K S s'
set_option maxHeartbeats 1600000 in
theorem val_t (C : Ctx w mean mg mb hs) (S : hs.StaysIn s.heap) (a : CA) (ns : List Node) (kn : Kn) (CC : IsCirc w s.heap a ns kn) (G : Good ns kn)
   (ri rd : Addr) (tc : Tok) (nr : Nat) (RI : InstAt s.heap ri (instObj 153 rd) 153 (some (readDict w.params a tc nr)))
   (di : Addr) (kin : List (Int × Value)) (DI : s.heap.DictOf (iK w) di kin) (lod : (di == sysModules) = false) (inp : Nat → Bool) (hin : ∀ i : Nat, ns[i]? = some .inp → (valueAt kin (i : Int)).getD (.bool false) = .bool (inp i))
   (x : Int) (t : Tok) (hx : Lit ns x) (hdp : dp ≤ 700) (hun : un ≤ 8800) (hlen : ns.length ≤ 100)
   (hQ : ∀ h' tk, s.heap.StaysIn h' → s.heap.objs.size ≤ h'.objs.size → Q (.bool (lit inp ns x)) { s with heap := h', toks := tk }) :
   wpAny (model PySem.Challenge.rw_nu0266_01.row.prog w) (At dp un fr gd) (call (.ref 150) [.ref ri, .int x t, .ref di]) Q E s := by
  have X0 := C.X
  revert X0
  k_fill
  intro X0
  refine' enterC (binds := [(Str.ofString "self", .ref ri), (Str.ofString "g", .int x t), (Str.ofString "inputs", .ref di)]) [] C S ?ho ?hcd ?hr ?hm ?hn ?hbind ?hkind ?hnd ?_ ?hco ?hg ?hk
  case ho => k_is
  case hcd => k_is
  case hr => exact Nat.lt_of_le_of_lt hdp (by decide)
  case hm => intro p hp; cases hp
  case hn => intro p hp; cases hp
  case hbind => exact BindsTo.of_eq rfl
  case hkind =>
    intro n
    simp only [List.forall_mem_cons, List.not_mem_nil, false_imp_iff, implies_true, and_true]
    refine ⟨.inl rfl, .inl rfl, .inl rfl⟩
  case hnd => decide
  case hco => exact rfl
  case hg => exact rfl
  case hk => exact rfl
  intro g L' h₁ fr' tk0 cells K0' F N Y lt X T St Of Sz
  have K0 : s.heap.StaysIn g := fun b o e => K0' b o (by simp) e
  clear K0'
  have CG := CC.stay K0
  have RG := inst_stay K0 RI
  have DG : g.DictOf (iK w) di kin := dict_stay K0 DI
  obtain ⟨t1, t2, t3, n, I⟩ := CG.inst
  k_cells Y
  try dsimp only [List.cons_append, List.nil_append] at N
  k_steps
  unfold Stop
  rename Fr _ _ _ _ => F9
  rename News _ _ _ _ => N9
  rename Obj.IsDictOf (PySem.intKind _ _) _ _ => hK9
  rename Obj.data _ = Data.cell (some (.ref _)) => hc9
  rename (_ == sysModules) = false => loK
  rename_i cD ltc u _ l _ ltl _ _ oc _
  have ltD := l1ω
  obtain ⟨dK, edK⟩ : ∃ dK, dK = h₁.objs.size := ⟨_, rfl⟩
  rw [← edK] at N9 hc9 loK ltl ltD ltc
  have F9' : Fr g L' _ (valMap ri di l x t) := F9
  refine wpAny_While ?_
  refine proc (P := fun s' => codeAny (model PySem.Challenge.rw_nu0266_01.row.prog w) _ _ _ s') (Inv := VInv w g L' ri di l dK x t s inp ns)
    (pt := fun x => ((ns[x]?.map Node.parts).getD []).map Int.natAbs) (N := ns.length) ?hpt ?turn x.natAbs hx.1 hx.2 [(1, .bool true)] [] _ ?inv0 ?bound ?fin
  case hpt =>
    intro y m hy hm
    obtain ⟨p, hp, rfl⟩ := List.mem_map.mp hm
    cases e : ns[y]? with
    | none => rw [e] at hp; cases hp
    | some nd =>
      rw [e] at hp
      cases nd with
      | conj ps => exact (G.parts y ps e).2 p hp
      | _ => cases hp
  case bound => have := hx.2; simp only [List.length_nil]; omega
  case inv0 =>
    refine ⟨_, _, _, [.int _ u], 0, _, _, _, rfl, (upd2_eq (valMap ri di l x t) _ _) ▸ F9', fun p hp => N9 p (.tail _ hp), ?_, hK9, hc9, ?_⟩
    · have e : (if x < 0 then -x else x) = Int.ofNat x.natAbs := by
        show _ = ((x.natAbs : Nat) : Int); split <;> omega
      rw [e]; exact .cons _ _ .nil
    · refine ⟨?_, by simp, fun k hk => by rw [List.mem_singleton.mp hk]; have := G.lit1.2; exact ⟨by decide, by show (1 : Int) < _; have : (1 : Int).natAbs = 1 := rfl; omega⟩⟩
      intro k v hv
      by_cases hk : k = 1
      · subst hk; cases hv; exact ⟨by rw [lit_one G], by decide⟩
      · have : valueAt [((1 : Int), Value.bool true)] k = none := by
          unfold valueAt
          rw [List.find?_cons_of_neg (by simpa using Ne.symm hk)]; rfl
        rw [this] at hv; cases hv
  case fin =>
    rintro K s' ⟨h, tk, oK, vs, nS, oc', b1, b2, rfl, F, N, hvs, hK, hoc, ok⟩ hk mono
    have := hvs.nil_inv
    subst this
    clear F9 N9 F9'
    refine while_turn ?_
    k_steps
    rename Fr _ _ _ _ => F8
    rename News _ _ _ _ => N8
    obtain ⟨v, hv⟩ := Option.isSome_iff_exists.mp hk
    have hv1 := (ok.1 _ _ hv).1
    have e : (if x < 0 then -x else x) = ((x.natAbs : Nat) : Int) := by split <;> omega
    rw [e]
    refine dc_item (kda_dict N8 (.tail _ (.head _)) hK) (intKind_is _ _ _ _) hv ?_
    rw [hv1]
    k_steps
    try dsimp only
    rw [← lit_abs hx.1]
    exact hQ _ _ (fun b o e => F8.keep b o (K0 b o e)) (size_of_fr Sz F8)
  case turn =>
    rintro K S x0 s' ⟨h, tk, oK, vs, nS, oc', b1, b2, rfl, F, N, hvs, hK, hoc, ok⟩ h1 hN hS cont
    rw [List.map_append] at hvs
    have hKl := ok.len
    obtain ⟨vs', tx, rfl, hvs'⟩ := ints_snoc hvs
    have ev := hvs'.length
    rw [List.length_map] at ev
    clear F9 N9 F9' hK9 hc9
    have es : (vs' ++ [Value.int (Int.ofNat x0) tx]).toArray.size = vs'.length + 1 := by simp
    refine while_turn ?_
    k_steps
    unfold Stop
    rename Fr _ _ _ _ => F8
    rename News _ _ _ _ => N8
    refine top_item (vs := vs') (v := Value.int (Int.ofNat x0) tx) (News.isList N8 (.head _)) (by omega) ?_
    k_steps
    unfold Stop
    rename Fr _ _ _ _ => F7
    rename News _ _ _ _ => N7
    refine' asg_K F7 N7 (testOf K) absOf ?c0 ?c1 ?c2 ?c3 ?c4 ?c5 ?c7 ?c8 ?c9 ?_ ?c6
    case c0 => with_unfolding_all rfl
    case c1 => with_unfolding_all rfl
    case c2 => decide
    case c3 => exact rfl
    case c4 => decide
    case c5 => exact rfl
    case c6 => intro _; with_unfolding_all rfl
    case c7 => exact rfl
    case c8 => exact rfl
    case c9 => exact rfl
    k_steps
    rename Fr _ _ _ _ => F6
    rename News _ _ _ _ => N6
    obtain ⟨nd, hnd⟩ : ∃ nd, ns[x0]? = some nd := ⟨_, List.getElem?_eq_getElem hN⟩
    have C6 := CG.stay F6.keep
    refine parts_spec C (fun b o e => F6.keep b o (St b o e)) a ns kn C6 (Int.ofNat x0) tx (Nat.le_trans (Nat.succ_le_succ hdp) (by decide)) (Nat.le_trans (Nat.add_le_add_right hun 3) (by decide)) (by omega) nd hnd ?_
    intro h5 tp tk5 st5 sz5 htk
    obtain ⟨pvs, htup, hpi⟩ := tkey_tup htk
    have ep := hpi.length
    have tests0 : ∀ (h : Heap) (D : Addr), True := fun _ _ => trivial
    refine ⟨_, _, _, F6.keeps st5, N6.grown st5, iter_tup rfl (stay_tup st5 htup), ?sz, ?tests, ?elts, ?after⟩
    case sz => rw [List.size_toArray, ep, sizeLine_eq]; exact Nat.le_trans (parts_len G hnd) (by decide)
    case tests =>
      intro D i v s₃ m₃ E' hC hP hn hm st
      obtain ⟨z, tz, rfl, hz⟩ := hpi.at i v (by simpa using hP)
      have st3 : ∀ b o, g.get? b = some o → s₃.heap.get? b = some o := fun b o e => st _ _ (st5 _ _ (F6.keep b o e))
      have X3 := Frag.In.keeps X st3
      have T3 := T.keeps st3
      have D3 : s₃.heap.DictOf (iK w) dK K := dict_stay st (dict_stay st5 (kda_dict N6 (.tail _ (.head _)) hK))
      have c3 : ∃ o, s₃.heap.get? (L' + 1) = some o ∧ o.data = .cell (some (.ref dK)) := ⟨_, st _ _ (st5 _ _ (N6 _ (.tail _ (.tail _ (.head _)))).1), hoc⟩
      k_steps
      unfold Stop
      refine name_cell (c := L' + 1) (v := .ref dK) ?_ ?_ ?_ c3 (by decide) ?_
      · exact rfl
      · exact rfl
      · exact rfl
      k_steps
      · have e : (if z < 0 then -z else z) = ((z.natAbs : Nat) : Int) := by split <;> omega
        rw [e]; rfl
      · exact ⟨_, _, rfl, fun _ _ e => e⟩
    case elts =>
      intro D i v s₃ m₃ E' hC hP hp hn hm st
      obtain ⟨z, tz, rfl, hz⟩ := hpi.at i v (by simpa using hP)
      have st3 : ∀ b o, g.get? b = some o → s₃.heap.get? b = some o := fun b o e => st _ _ (st5 _ _ (F6.keep b o e))
      have X3 := Frag.In.keeps X st3
      have T3 := T.keeps st3
      have D3 : s₃.heap.DictOf (iK w) dK K := dict_stay st (dict_stay st5 (kda_dict N6 (.tail _ (.head _)) hK))
      have c3 : ∃ o, s₃.heap.get? (L' + 1) = some o ∧ o.data = .cell (some (.ref dK)) := ⟨_, st _ _ (st5 _ _ (N6 _ (.tail _ (.tail _ (.head _)))).1), hoc⟩
      k_steps
      exact ⟨⟨z, tz, _, rfl, by congr 1; split <;> omega⟩, _, _, rfl, fun _ _ e => e⟩
    case after =>
      intro D h' tk ys k vs3 F' N' hD hlen' hv' hF hst
      have e1 := list_of_places hlen' hv'
      rw [e1] at hF
      have hys := paired_abs hpi hF
      have ey := hys.length
      have ey2 : ys.length ≤ 8 := by rw [ey, List.length_map, List.length_map]; exact Nat.le_trans (List.length_filter_le _ _) (parts_len G hnd)
      have eys : ys.toArray.size = ys.length := by simp
      have Dl : @Ne Nat D l := Ne.symm (hD _ (.head _))
      have DK : @Ne Nat D dK := Ne.symm (hD _ (.tail _ (.head _)))
      have Dc : @Ne Nat D (L' + 1) := Ne.symm (hD _ (.tail _ (.tail _ (.head _))))
      have lne : ∀ p ∈ [(dK, oK), (L' + 1, oc')], p.1 ≠ l := List.forall_mem_cons.mpr ⟨Nat.ne_of_lt ltl.1, List.forall_mem_cons.mpr ⟨Nat.ne_of_lt ltl.2, List.forall_mem_nil _⟩⟩
      k_steps
      · have hk : has K x0 := by assumption
        rename Fr _ _ _ _ => F4
        rename News _ _ _ _ => N4
        refine kl_pop F4 N4 (its := (vs' ++ [Value.int (Int.ofNat x0) tx]).toArray) (p := vs') (y := Value.int (Int.ofNat x0) tx) (kpa_last _ _) (.tail Dl (.head lne)) (by show (vs' ++ [Value.int (Int.ofNat x0) tx]).length ≤ sizeLine; rw [List.length_append, List.length_singleton, sizeLine_eq]; omega) ?_
        intro h4 F4' N4'
        have C4 := CG.stay F4'.keep
        clear F4 N4
        k_steps
        rename Fr _ _ _ _ => F3
        rename News _ _ _ _ => N3
        refine kind_spec C (fun b o e => F3.keep b o (St b o e)) a ns kn C4 (Int.ofNat x0) tx (Nat.le_trans (Nat.succ_le_succ hdp) (by decide)) (Nat.le_trans (Nat.add_le_add_right hun 3) (by decide)) (by omega) nd hnd ?_
        intro h2 t2' tk2 st2 sz2
        have F2 := F3.keeps st2
        have N2 := N3.grown st2
        clear F3 N3
        have C2 := CG.stay F2.keep
        k_steps
        · have hkd : nd.kind = Str.ofString "input" := by first | assumption | exact eq_of_beq (by assumption) | exact of_decide_eq_true (by assumption)
          have hnd' := hnd
          rw [kind_inp hkd] at hnd'
          try (refine dm_get (dict_stay F2.keep DG) ?_; k_steps)
          rename Fr _ _ _ _ => F1
          rename News _ _ _ _ => N1
          rename Obj.IsDictOf _ _ (stored _ _ _) => hK1
          rw [upd2_shadow] at F1
          refine cont _ S _ ⟨_, _, _, vs', nS + 1, oc', _, _, rfl, F1, fun p hp => N1 p (.tail _ hp), hvs', hK1, hoc, ok.stored h1 hN ?_⟩ (.inl ⟨rfl, has_stored (.inr rfl), fun _ h => has_stored (.inl h)⟩)
          rw [lit_inp hnd' h1]; exact hin _ hnd'
        · rename Fr _ _ _ _ => F1
          rename News _ _ _ _ => N1
          rw [upd2_shadow] at F1
          exact cont _ S _ ⟨_, _, _, vs', nS + 1, oc', _, _, rfl, F1, fun p hp => N1 p (.tail _ hp), hvs', hK, hoc, ok⟩ (.inl ⟨rfl, hk, fun _ h => h⟩)
      · rename Fr _ _ _ _ => F4
        rename News _ _ _ _ => N4
        have hk : ¬ has K x0 := by rename (valueAt K _).isSome = false => q; exact fun q' => by rw [show (valueAt K (Int.ofNat x0)).isSome = true from q'] at q; cases q
        have hpos : 0 < ys.length := by omega
        refine kl_extend F4 N4 (.head _) rfl ?ne (.tail Dl (.head lne)) (extend_door ?z1) ?z2 ?z3 ?_
        case ne => show ys.length ≠ 0; omega
        case z1 => rw [List.size_toArray, List.size_toArray, List.length_append, List.length_singleton, sizeLine_eq]; omega
        case z2 => show (vs' ++ [Value.int (Int.ofNat x0) tx]).length ≤ sizeLine; rw [List.length_append, List.length_singleton, sizeLine_eq]; omega
        case z3 => rw [List.size_toArray, List.size_toArray, List.length_append, List.length_singleton, sizeLine_eq]; omega
        intro h4 F4' N4'
        clear F4 N4
        k_steps
        rename Fr _ _ _ _ => F1
        rename News _ _ _ _ => N1
        rw [upd2_shadow] at F1
        refine cont K (S ++ [x0] ++ (nd.parts.filter fun z => !(valueAt K (z.natAbs : Int)).isSome).map Int.natAbs) _ ⟨_, _, _, vs' ++ [Value.int (Int.ofNat x0) tx] ++ ys, nS + 1, oc', _, _, rfl, F1, fun p hp => N1 p (.tail _ hp), ?_, hK, hoc, ok⟩ (.inr ⟨_, rfl, rfl, ?_, ?_, ?_, ?_⟩)
        · rw [List.map_append, List.map_append]; exact hvs.append hys
        · intro q
          rw [q] at hys
          rw [hys.nil_inv] at hpos; cases hpos
        · rw [ey, List.length_map] at ey2; exact ey2
        · dsimp only; rw [hnd]; exact step_more.1
        · dsimp only; rw [hnd]; exact step_more.2
      · have hk : ¬ has K x0 := by rename (valueAt K _).isSome = false => q; exact fun q' => by rw [show (valueAt K (Int.ofNat x0)).isSome = true from q'] at q; cases q
        have hz0 : ys.length = 0 := by omega
        have allk : ∀ z ∈ nd.parts, has K z.natAbs := by
          intro z hz
          refine ((step_more (K := K) (ps := nd.parts)).2 z.natAbs (List.mem_map_of_mem hz)).resolve_right fun q => ?_
          rw [ey, List.length_map] at hz0
          rw [List.eq_nil_of_length_eq_zero hz0] at q; cases q
        rename Fr _ _ _ _ => F4
        rename News _ _ _ _ => N4
        refine kl_pop F4 N4 (its := (vs' ++ [Value.int (Int.ofNat x0) tx]).toArray) (p := vs') (y := Value.int (Int.ofNat x0) tx) (kpa_last _ _) (.tail Dl (.head lne)) (by show (vs' ++ [Value.int (Int.ofNat x0) tx]).length ≤ sizeLine; rw [List.length_append, List.length_singleton, sizeLine_eq]; omega) ?_
        intro h4 F4' N4'
        have C4 := CG.stay F4'.keep
        clear F4 N4
        k_steps
        rename Fr _ _ _ _ => F3
        rename News _ _ _ _ => N3
        refine kind_spec C (fun b o e => F3.keep b o (St b o e)) a ns kn C4 (Int.ofNat x0) tx (Nat.le_trans (Nat.succ_le_succ hdp) (by decide)) (Nat.le_trans (Nat.add_le_add_right hun 3) (by decide)) (by omega) nd hnd ?_
        intro h2 t2' tk2 st2 sz2
        have F2 := F3.keeps st2
        have N2 := N3.grown st2
        clear F3 N3
        have C2 := CG.stay F2.keep
        k_steps
        · have hkd : nd.kind = Str.ofString "input" := by first | assumption | exact eq_of_beq (by assumption) | exact of_decide_eq_true (by assumption)
          have hnd' := hnd
          rw [kind_inp hkd] at hnd'
          try (refine dm_get (dict_stay F2.keep DG) ?_; k_steps)
          rename Fr _ _ _ _ => F1
          rename News _ _ _ _ => N1
          rename Obj.IsDictOf _ _ (stored _ _ _) => hK1
          rw [upd2_shadow] at F1
          refine cont _ S _ ⟨_, _, _, vs', nS + 1, oc', _, _, rfl, F1, fun p hp => N1 p (.tail _ hp), hvs', hK1, hoc, ok.stored h1 hN ?_⟩ (.inl ⟨rfl, has_stored (.inr rfl), fun _ h => has_stored (.inl h)⟩)
          rw [lit_inp hnd' h1]; exact hin _ hnd'
        · unfold Stop
          rename Fr _ _ _ _ => F1
          rename News _ _ _ _ => N1
          refine' comp_K F1 N1 (fun _ => true) (bitOf inp ns) ?c1 ?c2 ?c3 ?c4 ?c5 ?_ ?c6
          case c1 => with_unfolding_all rfl
          case c2 => decide
          case c3 => exact rfl
          case c4 => decide
          case c5 => exact rfl
          case c6 => intro _; with_unfolding_all rfl
          k_steps
          rename Fr _ _ _ _ => F0
          rename News _ _ _ _ => N0
          have C0 := CG.stay F0.keep
          refine parts_spec C (fun b o e => F0.keep b o (St b o e)) a ns kn C0 (Int.ofNat x0) tx (Nat.le_trans (Nat.succ_le_succ hdp) (by decide)) (Nat.le_trans (Nat.add_le_add_right hun 3) (by decide)) (by omega) nd hnd ?_
          intro j5 tp2 tj5 sj5 zj5 htk2
          obtain ⟨pvs2, htup2, hpi2⟩ := tkey_tup htk2
          have ep2 := hpi2.length
          refine ⟨_, _, _, F0.keeps sj5, N0.grown sj5, iter_tup rfl (stay_tup sj5 htup2), ?sz, tests_none, ?elts, ?after⟩
          case sz => rw [List.size_toArray, ep2, sizeLine_eq]; exact Nat.le_trans (parts_len G hnd) (by decide)
          case elts =>
            intro D2 i v s₃ m₃ E' hC hP hp hn hm st
            obtain ⟨z, tz, rfl, hz⟩ := hpi2.at i v (by simpa using hP)
            have st3 : ∀ b o, g.get? b = some o → s₃.heap.get? b = some o := fun b o e => st _ _ (sj5 _ _ (F0.keep b o e))
            have X3 := Frag.In.keeps X st3
            have T3 := T.keeps st3
            have D3 : s₃.heap.DictOf (iK w) dK K := dict_stay st (dict_stay sj5 (kda_dict N0 (.tail _ (.tail _ (.head _))) hK))
            have c3 : ∃ o, s₃.heap.get? (L' + 1) = some o ∧ o.data = .cell (some (.ref dK)) := ⟨_, st _ _ (sj5 _ _ (N0 _ (.tail _ (.tail _ (.tail _ (.head _))))).1), hoc⟩
            k_steps
            unfold Stop
            refine name_cell (c := L' + 1) (v := .ref dK) ?_ ?_ ?_ c3 (by decide) ?_
            · exact rfl
            · exact rfl
            · exact rfl
            k_steps
            have e : (if z < 0 then -z else z) = ((z.natAbs : Nat) : Int) := by split <;> omega
            have hzp : z ∈ nd.parts := List.mem_of_getElem? hz
            obtain ⟨v0, hv0⟩ := Option.isSome_iff_exists.mp (allk z hzp)
            have hv1 := ok.1 _ _ hv0
            rw [e]
            refine dc_item D3 (intKind_is _ _ _ _) hv0 ?_
            rw [hv1.1]
            k_steps
            · exact ⟨z, tz, rfl, by rw [← lit_abs (show 0 < z.natAbs by have := hv1.2; omega)]⟩
            · exact ⟨_, _, rfl, fun _ _ e => e⟩
          case after =>
            intro D2 h' tk' ys2 k2 vs4 F'' N'' hD2 hlen2 hv2 hF2 hst2
            have e2 := list_of_places hlen2 hv2
            rw [filter_true, e2] at hF2
            have hb2 := paired_bits hpi2 hF2
            k_steps
            rename Fr _ _ _ _ => F0'
            rename News _ _ _ _ => N0'
            refine LSm.all_bools F0' N0' rfl (News.isList N0' (.head _)) hb2 ?_
            intro h9 tk9 F9 N9
            clear F0' N0'
            have Dl2 : @Ne Nat D2 l := Ne.symm (hD2 _ (.tail _ (.head _)))
            have DK2 : @Ne Nat D2 dK := Ne.symm (hD2 _ (.tail _ (.tail _ (.head _))))
            k_steps
            rename Fr _ _ _ _ => F1
            rename News _ _ _ _ => N1
            rename Obj.IsDictOf _ _ (stored _ _ _) => hK1
            rw [upd2_shadow] at F1
            refine cont _ S _ ⟨_, _, _, vs', nS + 1, oc', _, _, rfl, F1, fun p hp => N1 p (.tail _ (.tail _ hp)), hvs', hK1, hoc, ok.stored h1 hN ?_⟩ (.inl ⟨rfl, has_stored (.inr rfl), fun _ h => has_stored (.inl h)⟩)
            have hkn : nd.kind ≠ Str.ofString "input" := by
              rename (nd.kind == Str.ofString "input") = false => q
              exact fun q' => by rw [q'] at q; exact absurd q (by decide)
            rw [lit_node G hnd h1 hkn, List.all_map]; rfl
end
end Mine
end
section
set_option linter.all false
open PySem PySem.W PyProof.Rows PySem.Calls PyProof.V PySem.Spec
set_option maxRecDepth 100000
namespace Mine
theorem wordsNuLaw : True := by
  w_top off
  k_with_none
  k_with "call ref" => (k_here; (with_reducible show wpAny _ _ (call (Value.ref 164) _) _ _ _); refine stop_intro ?_)
  k_with "call ref" => (k_here; (with_reducible show wpAny _ _ (call (Value.ref 169) _) _ _ _); refine stop_intro ?_)
  k_with "call ref" => (k_here; (with_reducible show wpAny _ _ (call (Value.ref 176) _) _ _ _); refine stop_intro ?_)
  k_with "call ref" => (k_here; (with_reducible show wpAny _ _ (call (Value.ref 183) _) _ _ _); refine stop_intro ?_)
  k_with "call ref" => (k_here; (with_reducible show wpAny _ _ (call (Value.ref 190) _) _ _ _); refine stop_intro ?_)
  k_with "call ref" => (k_here; (with_reducible show wpAny _ _ (call (Value.ref 150) _) _ _ _); refine stop_intro ?_)
  k_with "call ref" => (k_here; (with_reducible show wpAny _ _ (call (Value.ref 164) [Value.ref _, Value.int _ _]) _ _ _); k_dflt (refine' next_K ?F ?N ?X ?T ?U ?dp ?un ?d ?k0 ?k1 ?w ?w2 ?c ?i ?ns ?ca ?_; (case F => k_asm); (case N => k_asm); (case X => k_asm); (case T => k_asm); (case U => k_updF); (case dp => omega); (case un => omega); (case d => k_asm); (case c => is_list); (case i => assumption); (case k0 => omega); (case k1 => omega); (case w => omega); (case w2 => omega); (case ns => assumption); (case ca => assumption)); intro h'ω o'ω r'ω tr'ω tk'ω tq'ω F'ω N'ω d'ω r0'ω r1'ω kp'ω; (try dsimp only at N'ω))
  k_with "call builtin:len" => (k_here; (with_reducible show wpAny _ _ (call (Value.builtin "len") [Value.ref _]) _ _ _); k_dflt (refine' len_G ?l ?z ?_; (case l => is_list); (case z => omega)))
  k_with "subscriptTail" => (k_here; (with_reducible show wpAny _ _ (subscriptTail _ _ (Value.ref _) (Value.int _ _)) _ _ _); k_dflt (refine' item_G ?l ?k0 ?k1 ?z ?_ ?hs; (case l => is_list); (case k0 => first | assumption | omega); (case k1 => first | assumption | omega); (case z => first | assumption | omega); (case hs => with_unfolding_all rfl)); intro v'ω hv'ω)
  k_with "eval ListComp" => (k_here; refine stop_intro ?_)
  k_with "eval Name" => (k_dflt (refine' name_loc ?n ?v ?k ?l ?d ?_; (case n => assumption); (case v => assumption); (case k => exact rfl); (case l => exact rfl); (case d => decide)))
  k_with "subscriptTail" => (k_here; (with_reducible show wpAny _ _ (subscriptTail _ _ (Value.ref _) (Value.int _ _)) _ _ _); k_dflt (refine' item_bools ?l ?k0 ?k1 ?z ?_ ?hs; (case l => is_list); (case k0 => first | assumption | omega); (case k1 => first | assumption | omega); (case z => first | assumption | omega); (case hs => with_unfolding_all rfl)))
  k_with "compareOp In" => (k_here; (with_reducible show wpAny _ _ (compareOp CmpOp.In (Value.bool _) (Value.ref _)) _ _ _); k_dflt (refine' in_bools ?l ?_; (case l => is_list)))
  k_with "compareOp NotIn" => (k_here; (with_reducible show wpAny _ _ (compareOp CmpOp.NotIn (Value.bool _) (Value.ref _)) _ _ _); k_dflt (refine' notin_bools ?l ?_; (case l => is_list)))
  k_with "exec For" => (k_here; refine stop_intro ?_)
  k_with "exec For Name Call cons nil" => (k_here; refine stop_intro ?_)
  k_with "exec For Name Name cons nil" => (k_here; refine stop_intro ?_)
  k_with "exec For Tuple Name cons nil" => (k_here; refine stop_intro ?_)
  k_with "exec For Name Attribute cons nil" => (k_here; refine stop_intro ?_)
  k_with "setItem ref int" => (k_here; k_dflt (refine' kda_set (knd := PySem.intKind _ _) ?F ?N ?U ?d (intKind_is _ _ _ _) ?z ?_; (case F => k_asm); (case N => k_asm); (case U => k_updF); (case d => k_asm); (case z => (rw [sizeLine_eq]; omega))); intro h'ω o'ω F'ω N'ω hd'ω; (try dsimp only at N'ω))
  k_with "call builtin:len" => (k_here; (with_reducible show wpAny _ _ (call (Value.builtin "len") [Value.ref _]) _ _ _); k_dflt (refine' len_A ?l ?z ?_; (case l => is_list); (case z => (simp only [Array.size_push, List.size_toArray]; omega))))
  k_with "compareOp In" => (k_here; (with_reducible show wpAny _ _ (compareOp CmpOp.In (Value.int _ _) (Value.ref _)) _ _ _); k_dflt (refine' kda_in (knd := PySem.intKind _ _) ?N ?mem ?hd ?lo (intKind_is _ _ _ _) _ rfl ?_; (case N => k_asm); (case mem => k_mem); (case hd => k_asm); (case lo => assumption)))
  k_with "newTuple" => (k_here; k_dflt (refine' newTuple_S ?F ?N ?_ ?z; (case F => k_asm); (case N => k_asm); (case z => kmk_size)); intro D'ω h'ω St'ω F'ω N'ω l1ω; (try k_lt l1ω))
  k_with "call builtin:repr" => (k_here; (with_reducible show wpAny _ _ (call (Value.builtin "repr") [Value.ref _]) _ _ _); refine stop_intro ?_)
  k_with "eval Name" => (k_dflt (refine' name_cell ?k ?l ?c ?o ?d ?_; (case k => exact rfl); (case l => exact rfl); (case c => exact rfl); (case o => assumption); (case d => decide)))
  k_with "call ref" => (k_here; (with_reducible show wpAny _ _ (call (Value.ref 127) _) _ _ _); refine stop_intro ?_)
  k_with "call ref" => (k_here; (with_reducible show wpAny _ _ (call (Value.ref 153) _) _ _ _); refine stop_intro ?_)
  k_with "newList" => (k_here; k_dflt (refine' newList_S ?F ?N ?_ ?z; (case F => k_asm); (case N => k_asm); (case z => kmk_size)); intro D'ω h'ω St'ω F'ω N'ω l1ω; (try k_lt l1ω))
  k_with "call builtin:list.append" => (k_here; (with_reducible show wpAny _ _ (call (Value.builtin _) [Value.ref _, _]) _ _ _); k_dflt (refine' append_S ?k1 ?k2 ?k3 ?_ ?z; (case k1 => k_asm); (case k2 => k_asm); (case k3 => k_upd); (case z => first | size_fits | (rw [sizeLine_eq]; omega))); intro h'ω F'ω N'ω kp'ω)
  k_with "storeName" => (k_here; k_dflt (refine' st_cell ?F ?N ?a ?b ?c ?U ?d ?_; (case F => k_asm); (case N => k_asm); (case a => exact rfl); (case b => exact rfl); (case c => exact rfl); (case U => k_updF); (case d => k_asm)); intro h'ω o'ω F'ω N'ω d'ω kp'ω; (try dsimp only at N'ω))
  k_with "storeName" => (k_here; k_dflt (refine' st_loc ?F ?N ?a ?b ?c ?_; (case F => k_asm); (case N => k_asm); (case a => exact rfl); (case b => exact rfl); (case c => exact rfl)); intro h'ω F'ω N'ω kp'ω)
  trivial
local macro_rules | `(tactic| k_ne) => `(tactic| first | assumption | exact Ne.symm (by assumption))
theorem nat_of {r : Int} (h0 : 0 ≤ r) {b : Int} (h1 : r < b) : ∃ n : Nat, 1 + r = (n : Int) ∧ 1 ≤ n ∧ (n : Int) ≤ b := ⟨(1 + r).toNat, by omega, by omega, by omega⟩
noncomputable abbrev mp1 (l : Addr) : Str → Option Value := fun y => if y = Str.ofString "script" then some (.ref l) else none
noncomputable abbrev mp2 (l : Addr) (wn mn : Nat) (tw tm : Tok) : Str → Option Value := fun y => if y = Str.ofString "wide" then some (.int (wn : Int) tw) else if y = Str.ofString "many" then some (.int (mn : Int) tm) else mp1 l y
noncomputable abbrev mpN (l : Addr) (wn mn : Nat) (tw tm : Tok) (nr il : Addr) : Str → Option Value := fun z => if z = Str.ofString "numbers" then some (.ref nr) else if z = Str.ofString "inputs" then some (.ref il) else mp2 l wn mn tw tm z
inductive J1 (w : World) (g : Heap) (L : Addr) (l : Addr) (s : Shared) (c6 : Obj) (c5 : Obj) (c4 : Obj) (c3 : Obj) (c2 : Obj) (s' : Shared) : Prop
  | mk : ∀ h tk fd od lc cvs cz kk c1' tz, (s' = { s with heap := h, toks := tk }) → (Fr g L h (mp1 l)) → (News g L h [(lc, listOf cvs.toArray kk), (fd, od), (L + 6, c6), (L + 5, c5), (L + 4, c4), (L + 3, c3), (L + 2, c2), (L + 1, c1')]) → (c1'.data = .cell (some (.ref fd))) → (od.IsDictOf (PySem.strKind PySem.Challenge.rw_nu0266_01.row.prog w) [(Str.ofString "cells", .ref lc), (Str.ofString "spot", .int 0 tz)]) → (IntsAre cvs cz) → (cz.length ≤ 60) → (@LT.lt Nat _ (L + 6) fd) → (@LT.lt Nat _ fd lc) → J1 w g L l s c6 c5 c4 c3 c2 s'
inductive J2 (w : World) (g : Heap) (L : Addr) (l : Addr) (fd : Addr) (lc : Addr) (s : Shared) (c6 : Obj) (c5 : Obj) (c4 : Obj) (c3 : Obj) (c2 : Obj) (c1' : Obj) (cvs : List Value) (kk : Nat) (s' : Shared) : Prop
  | mk : ∀ h tk od wn mn tw tm tz, (s' = { s with heap := h, toks := tk }) → (Fr g L h (mp2 l wn mn tw tm)) → (News g L h [(lc, listOf cvs.toArray kk), (fd, od), (L + 6, c6), (L + 5, c5), (L + 4, c4), (L + 3, c3), (L + 2, c2), (L + 1, c1')]) → (od.IsDictOf (PySem.strKind PySem.Challenge.rw_nu0266_01.row.prog w) [(Str.ofString "cells", .ref lc), (Str.ofString "spot", .int 2 tz)]) → (1 ≤ wn) → (wn ≤ 3) → (1 ≤ mn) → (mn ≤ 8) → J2 w g L l fd lc s c6 c5 c4 c3 c2 c1' cvs kk s'
inductive J3 (w : World) (g : Heap) (L : Addr) (l : Addr) (fd : Addr) (lc : Addr) (s : Shared) (c6 : Obj) (c5 : Obj) (c4 : Obj) (c3 : Obj) (c1' : Obj) (od3 : Obj) (cvs : List Value) (kk : Nat) (wn : Nat) (mn : Nat) (tw : Tok) (tm : Tok) (s' : Shared) : Prop
  | mk : ∀ h tk a c2', (s' = { s with heap := h, toks := tk }) → (Fr g L h (mp2 l wn mn tw tm)) → (News g L h [(lc, listOf cvs.toArray kk), (fd, od3), (L + 6, c6), (L + 5, c5), (L + 4, c4), (L + 3, c3), (L + 2, c2'), (L + 1, c1')]) → (c2'.data = .cell (some (.ref a.ci))) → (IsCirc w h a [.junk, .tru] []) → ((∀ z ∈ [a.ci, a.cd, a.ck, a.cp, a.cn], g.get? z = none ∧ z ∉ [L, lc, fd, L + 6, L + 5, L + 4, L + 3, L + 2, L + 1])) → J3 w g L l fd lc s c6 c5 c4 c3 c1' od3 cvs kk wn mn tw tm s'
inductive J4 (w : World) (g : Heap) (h4 : Heap) (L : Addr) (l : Addr) (fd : Addr) (lc : Addr) (s : Shared) (c6 : Obj) (c5 : Obj) (c4 : Obj) (c3 : Obj) (c1' : Obj) (c2' : Obj) (wn : Nat) (mn : Nat) (tw : Tok) (tm : Tok) (a : CA) (s' : Shared) : Prop
  | mk : ∀ h tk il ivs ik, (s' = { s with heap := h, toks := tk }) → (Fr g L h (fun y => if y = Str.ofString "inputs" then some (.ref il) else mp2 l wn mn tw tm y)) → (News g L h [(il, listOf ivs.toArray ik), (L + 6, c6), (L + 5, c5), (L + 4, c4), (L + 3, c3), (L + 2, c2'), (L + 1, c1')]) → (IntsAre ivs ((List.range wn).map fun j => ((j + 2 : Nat) : Int))) → (IsCirc w h a (ns0 wn) []) → (Feed w h fd lc 2) → (h4.get? il = none) → J4 w g h4 L l fd lc s c6 c5 c4 c3 c1' c2' wn mn tw tm a s'
inductive J5 (w : World) (g : Heap) (h5 : Heap) (L : Addr) (l : Addr) (fd : Addr) (lc : Addr) (il : Addr) (s : Shared) (c6 : Obj) (c5 : Obj) (c4 : Obj) (c3 : Obj) (c1' : Obj) (c2' : Obj) (ivs : List Value) (wn : Nat) (mn : Nat) (ik : Nat) (tw : Tok) (tm : Tok) (a : CA) (s' : Shared) : Prop
  | mk : ∀ h tk nr rt ru rv, (s' = { s with heap := h, toks := tk }) → (Fr g L h (fun z => if z = Str.ofString "numbers" then some (.ref nr) else if z = Str.ofString "inputs" then some (.ref il) else mp2 l wn mn tw tm z)) → (News g L h [(il, listOf ivs.toArray ik), (L + 6, c6), (L + 5, c5), (L + 4, c4), (L + 3, c3), (L + 2, c2'), (L + 1, c1')]) → (IsRange h nr 0 ((2 ^ wn : Nat) : Int) 1 rt ru rv) → (IsCirc w h a (ns0 wn) []) → (Feed w h fd lc 2) → (h5.get? nr = none) → J5 w g h5 L l fd lc il s c6 c5 c4 c3 c1' c2' ivs wn mn ik tw tm a s'
inductive J6 (w : World) (g : Heap) (L : Addr) (l : Addr) (fd : Addr) (lc : Addr) (il : Addr) (nr : Addr) (s : Shared) (c6 : Obj) (c5 : Obj) (c4 : Obj) (c1' : Obj) (c2' : Obj) (wn : Nat) (mn : Nat) (pn : Nat) (tw : Tok) (tm : Tok) (a : CA) (s' : Shared) : Prop
  | mk : ∀ h tk gl c3', (s' = { s with heap := h, toks := tk }) → (Fr g L h (mpN l wn mn tw tm nr il)) → (News g L h [(L + 6, c6), (L + 5, c5), (L + 4, c4), (L + 3, c3'), (L + 2, c2'), (L + 1, c1')]) → (c3'.data = .cell (some (.ref gl))) → (LB w h fd lc il nr gl a wn pn 2 (ns0 wn) [] 1) → (Ap L fd lc il nr gl a) → (g.get? gl = none) → J6 w g L l fd lc il nr s c6 c5 c4 c1' c2' wn mn pn tw tm a s'
inductive J7 (w : World) (g : Heap) (L : Addr) (l : Addr) (fd : Addr) (lc : Addr) (il : Addr) (nr : Addr) (gl : Addr) (s : Shared) (c6 : Obj) (c5 : Obj) (c1' : Obj) (c2' : Obj) (c3' : Obj) (wn : Nat) (mn : Nat) (pn : Nat) (tw : Tok) (tm : Tok) (a : CA) (s' : Shared) : Prop
  | mk : ∀ h tk c4', (s' = { s with heap := h, toks := tk }) → (Fr g L h (mpN l wn mn tw tm nr il)) → (News g L h [(L + 6, c6), (L + 5, c5), (L + 4, c4'), (L + 3, c3'), (L + 2, c2'), (L + 1, c1')]) → ((∃ v, c4'.data = .cell v)) → (LB w h fd lc il nr gl a wn pn 2 (ns0 wn) [] (1 + wn)) → J7 w g L l fd lc il nr gl s c6 c5 c1' c2' c3' wn mn pn tw tm a s'
inductive J8 (w : World) (g : Heap) (L : Addr) (l : Addr) (fd : Addr) (lc : Addr) (il : Addr) (nr : Addr) (gl : Addr) (s : Shared) (c1' : Obj) (c2' : Obj) (c3' : Obj) (c4' : Obj) (wn : Nat) (mn : Nat) (pn : Nat) (tw : Tok) (tm : Tok) (a : CA) (s' : Shared) : Prop
  | mk : ∀ h tk o6 o5 b1 b2 b3 k ns kn, (s' = { s with heap := h, toks := tk }) → (Fr g L h (mT (mpN l wn mn tw tm nr il) b1 b2 b3)) → (News g L h [(L + 6, o6), (L + 5, o5), (L + 4, c4'), (L + 3, c3'), (L + 2, c2'), (L + 1, c1')]) → ((∃ v, o6.data = .cell v)) → ((∃ v, o5.data = .cell v)) → (LB w h fd lc il nr gl a wn pn k ns kn (1 + wn + mn)) → (ns.length ≤ 2 + wn + 3 * mn) → J8 w g L l fd lc il nr gl s c1' c2' c3' c4' wn mn pn tw tm a s'
inductive J8a (w : World) (g : Heap) (L : Addr) (l : Addr) (fd : Addr) (lc : Addr) (il : Addr) (nr : Addr) (gl : Addr) (I : Addr) (s : Shared) (c1' : Obj) (c2' : Obj) (c3' : Obj) (c4' : Obj) (o6 : Obj) (oI : Obj) (wn : Nat) (mn : Nat) (pn : Nat) (i : Nat) (tw : Tok) (tm : Tok) (t : Tok) (a : CA) (b1 : Option Value) (b2 : Option Value) (k : Int) (ns : List Node) (kn : Kn) (s' : Shared) : Prop
  | mk : ∀ h tk kd tkd o5', (s' = { s with heap := h, toks := tk }) → (Fr g L h (mT (mpN l wn mn tw tm nr il) b1 b2 (some (.int (i : Int) t)))) → (News g L h [(I, oI), (L + 6, o6), (L + 5, o5'), (L + 4, c4'), (L + 3, c3'), (L + 2, c2'), (L + 1, c1')]) → (o5'.data = .cell (some (.int kd tkd))) → (0 ≤ kd) → (kd ≤ 7) → (LB w h fd lc il nr gl a wn pn (k + 1) ns kn (1 + wn + i)) → J8a w g L l fd lc il nr gl I s c1' c2' c3' c4' o6 oI wn mn pn i tw tm t a b1 b2 k ns kn s'
inductive J8b (w : World) (g : Heap) (L : Addr) (l : Addr) (fd : Addr) (lc : Addr) (il : Addr) (nr : Addr) (gl : Addr) (I : Addr) (s : Shared) (c1' : Obj) (c2' : Obj) (c3' : Obj) (c4' : Obj) (o6 : Obj) (o5' : Obj) (oI : Obj) (wn : Nat) (mn : Nat) (pn : Nat) (i : Nat) (tw : Tok) (tm : Tok) (t : Tok) (a : CA) (b1 : Option Value) (k : Int) (kd : Int) (ns : List Node) (kn : Kn) (s' : Shared) : Prop
  | mk : ∀ h tk cn tcn k', (s' = { s with heap := h, toks := tk }) → (Fr g L h (mT (mpN l wn mn tw tm nr il) b1 (some (.int ((cn : Nat) : Int) tcn)) (some (.int (i : Int) t)))) → (News g L h [(I, oI), (L + 6, o6), (L + 5, o5'), (L + 4, c4'), (L + 3, c3'), (L + 2, c2'), (L + 1, c1')]) → (cn ≤ 4) → ((2 ≤ kd → kd < 7 → cn = 2)) → ((kd = 7 → cn = 3)) → (0 ≤ k') → (k' ≤ k + 2) → (LB w h fd lc il nr gl a wn pn k' ns kn (1 + wn + i)) → J8b w g L l fd lc il nr gl I s c1' c2' c3' c4' o6 o5' oI wn mn pn i tw tm t a b1 k kd ns kn s'
inductive J8c (w : World) (g : Heap) (hc : Heap) (L : Addr) (l : Addr) (fd : Addr) (lc : Addr) (il : Addr) (nr : Addr) (gl : Addr) (I : Addr) (s : Shared) (c1' : Obj) (c2' : Obj) (c3' : Obj) (c4' : Obj) (o5' : Obj) (oI : Obj) (wn : Nat) (mn : Nat) (pn : Nat) (i : Nat) (cn : Nat) (tw : Tok) (tm : Tok) (t : Tok) (tcn : Tok) (a : CA) (b1 : Option Value) (k' : Int) (ns : List Node) (kn : Kn) (s' : Shared) : Prop
  | mk : ∀ h tk sl svs sk o6' k'' prs, (s' = { s with heap := h, toks := tk }) → (Fr g L h (mT (mpN l wn mn tw tm nr il) b1 (some (.int ((cn : Nat) : Int) tcn)) (some (.int (i : Int) t)))) → (News g L h [(I, oI), (L + 6, o6'), (L + 5, o5'), (L + 4, c4'), (L + 3, c3'), (L + 2, c2'), (L + 1, c1')]) → (o6'.data = .cell (some (.ref sl))) → (h.get? sl = some (listOf (svs : List Value).toArray sk)) → (Paired (Drawn1 h ns wn) svs prs) → (svs.length = cn) → (0 ≤ k'') → (k'' ≤ k' + 8) → (LB w h fd lc il nr gl a wn pn k'' ns kn (1 + wn + i)) → (hc.get? sl = none) → J8c w g hc L l fd lc il nr gl I s c1' c2' c3' c4' o5' oI wn mn pn i cn tw tm t tcn a b1 k' ns kn s'
inductive J8d (w : World) (g : Heap) (hd : Heap) (L : Addr) (l : Addr) (fd : Addr) (lc : Addr) (il : Addr) (nr : Addr) (gl : Addr) (I : Addr) (sl : Addr) (s : Shared) (c1' : Obj) (c2' : Obj) (c3' : Obj) (c4' : Obj) (o5' : Obj) (o6' : Obj) (oI : Obj) (svs : List Value) (wn : Nat) (mn : Nat) (pn : Nat) (i : Nat) (cn : Nat) (sk : Nat) (tw : Tok) (tm : Tok) (t : Tok) (tcn : Tok) (a : CA) (k'' : Int) (kd : Int) (ns : List Node) (kn : Kn) (prs : List (Int × List Bool)) (s' : Shared) : Prop
  | mk : ∀ h tk rl rk, (s' = { s with heap := h, toks := tk }) → (Fr g L h (mT (mpN l wn mn tw tm nr il) (some (.ref rl)) (some (.int ((cn : Nat) : Int) tcn)) (some (.int (i : Int) t)))) → (News g L h [(I, oI), (L + 6, o6'), (L + 5, o5'), (L + 4, c4'), (L + 3, c3'), (L + 2, c2'), (L + 1, c1')]) → (h.get? sl = some (listOf (svs : List Value).toArray sk)) → (h.get? rl = some (listOf ((((List.range pn).map fun m => deed kd (prs.map fun q => q.2.getD m false)).map Value.bool)).toArray rk)) → (Paired (Drawn1 h ns wn) svs prs) → (LB w h fd lc il nr gl a wn pn k'' ns kn (1 + wn + i)) → (hd.get? rl = none) → J8d w g hd L l fd lc il nr gl I sl s c1' c2' c3' c4' o5' o6' oI svs wn mn pn i cn sk tw tm t tcn a k'' kd ns kn prs s'
inductive J9 (w : World) (g : Heap) (L : Addr) (l : Addr) (fd : Addr) (lc : Addr) (il : Addr) (nr : Addr) (gl : Addr) (s : Shared) (c1' : Obj) (c2' : Obj) (c3' : Obj) (c4' : Obj) (o6 : Obj) (o5 : Obj) (wn : Nat) (mn : Nat) (pn : Nat) (tw : Tok) (tm : Tok) (a : CA) (b1 : Option Value) (b2 : Option Value) (b3 : Option Value) (k9 : Int) (ns : List Node) (kn : Kn) (s' : Shared) : Prop
  | mk : ∀ h tk ri rd tc, (s' = { s with heap := h, toks := tk }) → (Fr g L h (fun z => if z = Str.ofString "reading" then some (.ref ri) else mT (mpN l wn mn tw tm nr il) b1 b2 b3 z)) → (News g L h [(L + 6, o6), (L + 5, o5), (L + 4, c4'), (L + 3, c3'), (L + 2, c2'), (L + 1, c1')]) → (LB w h fd lc il nr gl a wn pn k9 ns kn (1 + wn + mn)) → (InstAt h ri (instObj 153 rd) 153 (some (readDict w.params a tc 1))) → ((∀ z ∈ [ri, rd], g.get? z = none ∧ z ∉ L :: [L + 6, L + 5, L + 4, L + 3, L + 2, L + 1])) → J9 w g L l fd lc il nr gl s c1' c2' c3' c4' o6 o5 wn mn pn tw tm a b1 b2 b3 k9 ns kn s'
inductive J10 (g : Heap) (L : Addr) (s : Shared) (s' : Shared) : Prop
  | mk : ∀ h tk m, (s' = { s with heap := h, toks := tk }) → (Fr g L h m) → J10 g L s s'
inductive J10a (w : World) (g : Heap) (L : Addr) (l : Addr) (fd : Addr) (lc : Addr) (il : Addr) (nr : Addr) (gl : Addr) (I : Addr) (ri : Addr) (rd : Addr) (s : Shared) (c1' : Obj) (c2' : Obj) (c3' : Obj) (c4' : Obj) (o6 : Obj) (o5 : Obj) (oI : Obj) (wn : Nat) (mn : Nat) (pn : Nat) (i : Nat) (tw : Tok) (tm : Tok) (t : Tok) (tc : Tok) (a : CA) (b1 : Option Value) (b2 : Option Value) (b3 : Option Value) (u1 : Option Value) (u2 : Option Value) (k9 : Int) (ns : List Node) (kn : Kn) (s' : Shared) : Prop
  | mk : ∀ h tk td otd kvs, (s' = { s with heap := h, toks := tk }) → (Fr g L h (mU (fun z => if z = Str.ofString "reading" then some (.ref ri) else mT (mpN l wn mn tw tm nr il) b1 b2 b3 z) u1 u2 (some (.ref td)) (some (.int (i : Int) t)))) → (News g L h [(I, oI), (L + 6, o6), (L + 5, o5), (L + 4, c4'), (L + 3, c3'), (L + 2, c2'), (L + 1, c1')]) → (LB w h fd lc il nr gl a wn pn k9 ns kn (1 + wn + mn)) → (InstAt h ri (instObj 153 rd) 153 (some (readDict w.params a tc 1))) → (h.get? td = some otd) → (otd.IsDictOf (iK w) kvs) → (ToldBy ((List.range wn).map fun j => ((j + 2 : Nat) : Int)) (i : Int) kvs) → ((td == sysModules) = false) → (g.get? td = none) → (td ∉ L :: I :: [L + 6, L + 5, L + 4, L + 3, L + 2, L + 1]) → J10a w g L l fd lc il nr gl I ri rd s c1' c2' c3' c4' o6 o5 oI wn mn pn i tw tm t tc a b1 b2 b3 u1 u2 k9 ns kn s'
inductive J10b (w : World) (g : Heap) (L : Addr) (l : Addr) (fd : Addr) (lc : Addr) (il : Addr) (nr : Addr) (gl : Addr) (I : Addr) (ri : Addr) (rd : Addr) (td : Addr) (s : Shared) (c1' : Obj) (c2' : Obj) (c3' : Obj) (c4' : Obj) (o6 : Obj) (o5 : Obj) (oI : Obj) (wn : Nat) (mn : Nat) (pn : Nat) (i : Nat) (tw : Tok) (tm : Tok) (t : Tok) (tc : Tok) (a : CA) (b1 : Option Value) (b2 : Option Value) (b3 : Option Value) (k9 : Int) (ns : List Node) (kn : Kn) (s' : Shared) : Prop
  | mk : ∀ h tk r1 r2, (s' = { s with heap := h, toks := tk }) → (Fr g L h (mU (fun z => if z = Str.ofString "reading" then some (.ref ri) else mT (mpN l wn mn tw tm nr il) b1 b2 b3 z) r1 r2 (some (.ref td)) (some (.int (i : Int) t)))) → (News g L h [(I, oI), (L + 6, o6), (L + 5, o5), (L + 4, c4'), (L + 3, c3'), (L + 2, c2'), (L + 1, c1')]) → (LB w h fd lc il nr gl a wn pn k9 ns kn (1 + wn + mn)) → (InstAt h ri (instObj 153 rd) 153 (some (readDict w.params a tc 1))) → J10b w g L l fd lc il nr gl I ri rd td s c1' c2' c3' c4' o6 o5 oI wn mn pn i tw tm t tc a b1 b2 b3 k9 ns kn s'
inductive P7 (w : World) (L : Addr) (l : Addr) (fd : Addr) (lc : Addr) (il : Addr) (nr : Addr) (gl : Addr) (c6 : Obj) (c5 : Obj) (c1' : Obj) (c2' : Obj) (c3' : Obj) (wn : Nat) (mn : Nat) (pn : Nat) (tw : Tok) (tm : Tok) (a : CA) (i : Nat) (m : Str → Option Value) (c : List (Addr × Obj)) (h : Heap) : Prop
  | mk : (m = mpN l wn mn tw tm nr il) → ((∃ o4 v, c = [(L + 6, c6), (L + 5, c5), (L + 4, o4), (L + 3, c3'), (L + 2, c2'), (L + 1, c1')] ∧ o4.data = .cell v)) → (LB w h fd lc il nr gl a wn pn 2 (ns0 wn) [] (1 + i)) → P7 w L l fd lc il nr gl c6 c5 c1' c2' c3' wn mn pn tw tm a i m c h
inductive P8 (w : World) (L : Addr) (l : Addr) (fd : Addr) (lc : Addr) (il : Addr) (nr : Addr) (gl : Addr) (c1' : Obj) (c2' : Obj) (c3' : Obj) (c4' : Obj) (wn : Nat) (mn : Nat) (pn : Nat) (tw : Tok) (tm : Tok) (a : CA) (i : Nat) (m : Str → Option Value) (c : List (Addr × Obj)) (h : Heap) : Prop
  | mk : ((∃ b1 b2 b3, m = mT (mpN l wn mn tw tm nr il) b1 b2 b3)) → ((∃ o6 v6 o5 v5, c = [(L + 6, o6), (L + 5, o5), (L + 4, c4'), (L + 3, c3'), (L + 2, c2'), (L + 1, c1')] ∧ o6.data = .cell v6 ∧ o5.data = .cell v5)) → (∃ k ns kn, LB w h fd lc il nr gl a wn pn k ns kn (1 + wn + i) ∧ 0 ≤ k ∧ k ≤ 2 + 10 * (i : Int) ∧ ns.length ≤ 2 + wn + 3 * i) → P8 w L l fd lc il nr gl c1' c2' c3' c4' wn mn pn tw tm a i m c h
inductive P10 (w : World) (L : Addr) (l : Addr) (fd : Addr) (lc : Addr) (il : Addr) (nr : Addr) (gl : Addr) (ri : Addr) (rd : Addr) (c1' : Obj) (c2' : Obj) (c3' : Obj) (c4' : Obj) (o6 : Obj) (o5 : Obj) (wn : Nat) (mn : Nat) (pn : Nat) (tw : Tok) (tm : Tok) (tc : Tok) (a : CA) (b1 : Option Value) (b2 : Option Value) (b3 : Option Value) (k9 : Int) (ns : List Node) (kn : Kn) (i : Nat) (m : Str → Option Value) (c : List (Addr × Obj)) (h : Heap) : Prop
  | mk : ((∃ b1' b2' b3' b4', m = mU (fun z => if z = Str.ofString "reading" then some (.ref ri) else mT (mpN l wn mn tw tm nr il) b1 b2 b3 z) b1' b2' b3' b4')) → (c = [(L + 6, o6), (L + 5, o5), (L + 4, c4'), (L + 3, c3'), (L + 2, c2'), (L + 1, c1')]) → (LB w h fd lc il nr gl a wn pn k9 ns kn (1 + wn + mn)) → (InstAt h ri (instObj 153 rd) 153 (some (readDict w.params a tc 1))) → P10 w L l fd lc il nr gl ri rd c1' c2' c3' c4' o6 o5 wn mn pn tw tm tc a b1 b2 b3 k9 ns kn i m c h
inductive P10b (w : World) (L : Addr) (l : Addr) (fd : Addr) (lc : Addr) (il : Addr) (nr : Addr) (gl : Addr) (I : Addr) (ri : Addr) (rd : Addr) (td : Addr) (c1' : Obj) (c2' : Obj) (c3' : Obj) (c4' : Obj) (o6 : Obj) (o5 : Obj) (oI : Obj) (otd : Obj) (wn : Nat) (mn : Nat) (pn : Nat) (i : Nat) (tw : Tok) (tm : Tok) (t : Tok) (tc : Tok) (a : CA) (b1 : Option Value) (b2 : Option Value) (b3 : Option Value) (k9 : Int) (ns : List Node) (kn : Kn) (gvs : List Value) (nG : Nat) (j : Nat) (m : Str → Option Value) (c : List (Addr × Obj)) (h : Heap) : Prop
  | mk : ((∃ r1 r2, m = mU (fun z => if z = Str.ofString "reading" then some (.ref ri) else mT (mpN l wn mn tw tm nr il) b1 b2 b3 z) r1 r2 (some (.ref td)) (some (.int (i : Int) t)))) → (c = [(I, oI), (L + 6, o6), (L + 5, o5), (L + 4, c4'), (L + 3, c3'), (L + 2, c2'), (L + 1, c1')]) → (LB w h fd lc il nr gl a wn pn k9 ns kn (1 + wn + mn)) → (InstAt h ri (instObj 153 rd) 153 (some (readDict w.params a tc 1))) → (h.get? td = some otd) → (h.get? gl = some (listOf gvs.toArray nG)) → P10b w L l fd lc il nr gl I ri rd td c1' c2' c3' c4' o6 o5 oI otd wn mn pn i tw tm t tc a b1 b2 b3 k9 ns kn gvs nG j m c h
set_option maxHeartbeats 20000000 in
theorem law_call {w : World} {mean : ExcName → Option Value} {mg mb : Str → Option Value} {hs : Heap} {dp un : Nat} {fr : Option (List Env)} {s : Shared} {Q E : Value → Shared → Prop}
   (C : Ctx w mean mg mb hs) (S : hs.StaysIn s.heap) (l : Addr) (vs : List Value) (cs : List Int) (hl : s.heap.IsList l vs.toArray) (hi : IntsAre vs cs) (hlen : cs.length ≤ 63) (hdp : dp ≤ 400) (hun : un ≤ 100)
   (hQ : ∀ h' tk, s.heap.StaysIn h' → Q (.bool true) { s with heap := h', toks := tk }) :
   wpAny (model PySem.Challenge.rw_nu0266_01.row.prog w) (At dp un fr (some [])) (call (.ref 195) [.ref l]) Q E s := by
  have X0 := C.X
  revert X0
  k_fill
  intro X0
  refine' enterC (binds := [(Str.ofString "script", .ref l)]) [] C S ?ho ?hcd ?hr ?hm ?hn ?hbind ?hkind ?hnd ?_ ?hco ?hg ?hk
  case ho => k_is
  case hcd => k_is
  case hr => exact Nat.lt_of_le_of_lt hdp (by decide)
  case hm => intro p hp; cases hp
  case hn => intro p hp; cases hp
  case hbind => exact BindsTo.of_eq rfl
  case hkind =>
    intro n
    simp only [List.forall_mem_cons, List.not_mem_nil, false_imp_iff, implies_true, and_true]
    exact .inl rfl
  case hnd => decide
  case hco => exact rfl
  case hg => exact rfl
  case hk => exact rfl
  intro g L h₁ fr' tk0 cells K0' F N Y lt X T St Of Sz
  have K0 : s.heap.StaysIn g := fun b o e => K0' b o (by simp) e
  clear K0'
  have dpA : dp + 1 ≤ 600 := by omega
  have unA : un + 3 ≤ 8000 := by omega
  have hlg := stay_list K0 hl
  have e1 := hi.length
  k_cells Y
  try dsimp only [List.cons_append, List.nil_append] at N
  rename_i c6 c5 c4 c3 c2 c1 q6 q5 q4 q3 q2 q1
  have F1 : Fr g L h₁ (mp1 l) := F
  clear F
  have q2' : c2.data = .cell none := q2
  have q3' : c3.data = .cell none := q3
  have q4' : c4.data = .cell none := q4
  have q5' : c5.data = .cell none := q5
  have q6' : c6.data = .cell none := q6
  have q1' : c1.data = .cell none := q1
  clear q1 q2 q3 q4 q5 q6
  refine execs_cut (J1 w g L l s c6 c5 c4 c3 c2) ?cutA ?cutB
  case cutA =>
    k_fold
    k_steps
    rename Fr _ _ _ _ => F9
    rename News _ _ _ _ => N9
    rename IntsAre _ (List.take 60 cs) => hI9
    rename Obj.IsDictOf _ _ (strPairs _) => hD9
    rename Obj.data _ = Data.cell (some (.ref _)) => hc9
    rename (List.take 60 cs).length = _ => hC9
    refine ⟨(by first | exact trivial | exact rfl), _, _, _, _, _, _, _, _, _, _, rfl, F9, news_cut2 N9, hc9, hD9, hI9, ?_, ?_, ?_⟩
    · rw [hC9]; omega
    · show (_ : Nat) < _; omega
    · show (_ : Nat) < _; omega
  case cutB =>
  rintro s2 ⟨h2, tk2, fd, od, lc, cvs, cz, kk, c1', tz, rfl, F2, N2, hc1, hod, hcz, hcl, lt1, lt2⟩
  clear F1 N
  have ecz := hcz.length
  have nlf : lc ≠ fd := Nat.ne_of_gt lt2
  refine execs_cut (J2 w g L l fd lc s c6 c5 c4 c3 c2 c1' cvs kk) ?cutA ?cutB
  case cutA =>
    k_fold
    k_steps
    rename Fr _ _ _ _ => F9
    rename News _ _ _ _ => N9
    rename Obj.IsDictOf _ _ [_, (_, Value.int (0 + 1 + 1) _)] => hD9
    rename _ < (3 : Int) => lw
    rename _ < (8 : Int) => lm
    obtain ⟨wn, hwn, a1, a2⟩ := nat_of (by assumption) lw
    obtain ⟨mn, hmn, a3, a4⟩ := nat_of (by assumption) lm
    rw [hwn, hmn] at F9
    exact ⟨(by first | exact trivial | exact rfl), _, _, _, wn, mn, _, _, _, rfl, F9, news_sub N9 (fun p hp => .tail _ hp), hD9, a1, by omega, a3, by omega⟩
  case cutB =>
  rintro s3 ⟨h3, tk3, od3, wn, mn, tw, tm, tz3, rfl, F3, N3, hod3, w1, w2, m1, m2⟩
  clear F2 N2 hod
  refine execs_cut (J3 w g L l fd lc s c6 c5 c4 c3 c1' od3 cvs kk wn mn tw tm) ?cutA ?cutB
  case cutA =>
    k_fold
    k_steps
    rename Fr _ _ _ _ => F9
    rename News _ _ _ _ => N9
    refine circ_K F9 N9 X T dpA unA ?_
    intro h8 a tk8 F8 N8 K8 C8 new8
    k_steps
    rename Fr _ _ _ _ => F7
    rename News _ _ _ _ => N7
    rename Keep _ _ _ => K7
    rename Obj.data _ = Data.cell (some (.ref a.ci)) => c27
    have c2e := (N8 _ (.tail _ (.tail _ (.tail _ (.tail _ (.tail _ (.tail _ (.head _)))))))).1
    have newz : ∀ z ∈ a.all, g.get? z = none ∧ z ∉ [L, lc, fd, L + 6, L + 5, L + 4, L + 3, L + 2, L + 1] := fun z hz => new_off F9 N9 (new8 z hz)
    refine ⟨rfl, _, _, a, _, rfl, F7, N7, c27, C8.keepQ K7 (.cons (fun o e items k d => ?_) .nil) (fun z hz hm => ?_), newz⟩
    · rw [c2e] at e; cases e; rw [q2'] at d; cases d
    · exact (newz z hz).2 (List.mem_singleton.mp hm ▸ by simp)
  case cutB =>
  rintro s4 ⟨h4, tk4, a, c2', rfl, F4, N4, hc2, C4, newa⟩
  clear F3 N3
  have fd4 : Feed w h4 fd lc 2 := ⟨od3, cvs.toArray, cz, tz3, (N4 _ (.tail _ (.head _))).1, hod3, ⟨_, (N4 _ (.head _)).1, rfl, _, rfl⟩, by rw [List.toList_toArray]; exact hcz, hcl⟩
  have feN := (N4 _ (.tail _ (.head _)))
  have lcN := (N4 _ (.head _))
  have fdM : fd ∉ L :: a.mods := fun hm => (List.mem_cons.mp hm).elim feN.2.1 fun hm => (newa fd (mods_all _ hm)).2 (.tail _ (.tail _ (.head _)))
  have lcM : lc ∉ L :: a.mods := fun hm => (List.mem_cons.mp hm).elim lcN.2.1 fun hm => (newa lc (mods_all _ hm)).2 (.tail _ (.head _))
  have N4' := news_sub N4 (r := [(L + 6, c6), (L + 5, c5), (L + 4, c4), (L + 3, c3), (L + 2, c2'), (L + 1, c1')]) fun p hp => .tail _ (.tail _ hp)
  refine execs_cut (J4 w g h4 L l fd lc s c6 c5 c4 c3 c1' c2' wn mn tw tm a) ?cutA ?cutB
  case cutA =>
    k_fold
    refine' asg_range ?c0 ?c1 ?c2 ?c3 ?c4 ?c5 ?c6 ?_ ?c7
    case c0 => with_unfolding_all rfl
    case c1 => with_unfolding_all rfl
    case c2 => decide
    case c3 => exact rfl
    case c4 => decide
    case c5 => exact rfl
    case c6 => exact rfl
    case c7 => intro _; with_unfolding_all rfl
    k_steps
    rename Fr _ _ _ _ => F9
    rename News _ _ _ [_, _, _, _, _, _] => N9
    rename IsRange _ _ _ _ _ _ _ _ => R9
    rename ∀ b o, Heap.get? _ b = some o → Heap.get? _ b = some o => St9
    have St9 : h4.StaysIn _ := St9
    have C9 := C4.stay St9
    have hnM : ∀ p ∈ [(L + 6, c6), (L + 5, c5), (L + 4, c4), (L + 3, c3), (L + 2, c2'), (L + 1, c1')], p.1 ∉ a.mods := fun p hp hm => (newa p.1 (mods_all _ hm)).2 (.tail _ (.tail _ (.tail _ (List.mem_map_of_mem (f := (·.1)) hp))))
    have gM : ∀ b ∈ a.mods, g.get? b = none := fun b hb => (newa b (mods_all b hb)).1
    have LM : L ∉ a.mods := fun hm => (newa L (mods_all _ hm)).2 (.head _)
    refine ⟨_, _, _, _, _, wn, [L], a.mods, fun i h ys => IsCirc w h a (ns0 i) [] ∧ IntsAre ys ((List.range i).map fun j => ((j + 2 : Nat) : Int)), rfl, R9, ?small, ?size, ?sz, C9.there, ?hY, ?h0, ?elts, ?fin⟩
    case small => exact small_n (Nat.le_trans w2 (by decide))
    case size => exact size_n
    case sz => exact line_n (Nat.le_trans w2 (by decide))
    case hY => exact List.forall_mem_cons.mpr ⟨let ⟨o, _, _, e, _⟩ := F9.ns; ⟨o, e⟩, fun _ h => nomatch h⟩
    case h0 =>
      intro h'' K
      exact ⟨C9.keepQ K (quiet_ns F9.ns) (fun z hz hm => (newa z hz).2 (List.mem_singleton.mp hm ▸ .head _)), .nil⟩
    case elts =>
      rintro Z D CC i t s₃ m₃ ys hD hC hZ hZq hl hi hlen hn hm hK ⟨hJ1, hJ2⟩
      have st3 : ∀ b o, g.get? b = some o → s₃.heap.get? b = some o := fun b o e => hK b o (fun hm => by rw [gM b hm] at e; cases e) (F9.keep b o e)
      have X3 := Frag.In.keeps X st3
      have T3 := T.keeps st3
      obtain ⟨t1, t2, t3, n3, I3⟩ := hJ1.inst
      have c3 : ∃ o, s₃.heap.get? (L + 1 + 1) = some o ∧ o.data = .cell (some (.ref a.ci)) := ⟨_, hK _ _ (fun hm => (newa (L + 2) (mods_all _ hm)).2 (by simp)) (N9 _ (.tail _ (.tail _ (.tail _ (.tail _ (.head _)))))).1, hc2⟩
      obtain ⟨F3, N3⟩ := after F9 N9 hK gM LM hnM
      refine MethodCall_ ?_
      k_steps
      refine input_t ⟨X, T⟩ st3 a (ns0 i) [] hJ1 (fresh_of newa) (Nat.le_trans dpA (by decide)) (Nat.le_trans unA (by decide)) (by rw [ns0_len]; omega) ?_
      intro h8 t8 tk8 C8 K8 sz8
      have hLM : ∀ z ∈ [L], z ∉ a.mods := fun z hz hm => (newa z (mods_all z hm)).2 (List.mem_singleton.mp hz ▸ .head _)
      have q8 : Quiet h8 Z := z_quiet hZ hZq hl (ints_first hJ2) (quiet_ns F3.ns) (List.forall_mem_cons.mpr ⟨let ⟨o, _, _, e, _⟩ := F3.ns; ⟨o, e⟩, fun _ h => nomatch h⟩) C9.there hLM K8
      refine ⟨h8, tk8, rfl, K8, fun h'' K'' => ⟨?_, ints_more hJ2⟩⟩
      rw [← ns0_succ]
      exact C8.keepQ K'' q8 fun z hz => by
        obtain ⟨o, e⟩ := C9.all_there z hz
        exact z_off hZ e fun hm => (newa z hz).2 (List.mem_singleton.mp hm ▸ .head _)
    case fin =>
      refine' fin_loc ?fa ?f1 ?f2 ?f3 ?f4 ?f5 ?fb ?fc ?_
      case f1 => exact F9
      case f2 => exact N9
      case f3 => exact LM
      case f4 => exact gM
      case f5 => exact hnM
      case fa => exact rfl
      case fb => exact rfl
      case fc => exact rfl
      rintro il h7 tk7 ivs ik F7 N7 hil hivl ⟨C7, hiv⟩ K7
      k_unfold
      refine ⟨rfl, _, _, il, ivs, ik, rfl, F7, N7, hiv, C7, ?_, ?_⟩
      · exact (fd4.keep (Keep.of_stay (M := []) St9) (fun h => nomatch h) fun h => nomatch h).keep K7 fdM lcM
      · cases q : h4.get? il with
        | none => rfl
        | some o => have := St9 _ _ q; rw [hil] at this; cases this
  case cutB =>
  rintro s5 ⟨h5, tk5, il, ivs, ik, rfl, F5, N5, hiv, C5, fd5, hil⟩
  refine execs_cut (J5 w g h5 L l fd lc il s c6 c5 c4 c3 c1' c2' ivs wn mn ik tw tm a) ?cutA ?cutB
  case cutA =>
    k_fold
    have hp8 : (2 : Nat) ^ wn ≤ 8 := Nat.pow_le_pow_right (by decide) w2
    have ns5 := F5.ns
    k_steps
    rename Fr _ _ _ _ => F9
    rename News _ _ _ _ => N9
    rename IsRange _ _ _ _ _ _ _ _ => R9
    rename Keep _ _ _ => K9
    rename ∀ b o, Heap.get? _ b = some o → Heap.get? _ b = some o => St9
    have e2 : (2 : Int) ^ ((wn : Nat) : Int).toNat = ((2 ^ wn : Nat) : Int) := by rw [Int.toNat_natCast]; simp
    rw [e2] at R9
    have fr : h5.get? h5.objs.size = none := by
      cases q : h5.get? h5.objs.size with
      | none => rfl
      | some o => exact absurd (Heap.lt_size q) (Nat.lt_irrefl _)
    refine ⟨(by first | exact trivial | exact rfl), _, _, _, _, _, _, rfl, F9, N9, K9 _ _ (fun hm => ?_) R9, (C5.stay St9).keepQ K9 (quiet_ns (ns5.keeps St9)) (fun z hz hm => (newa z hz).2 (List.mem_singleton.mp hm ▸ .head _)), (fd5.keep (Keep.of_stay (M := []) St9) (fun h => nomatch h) fun h => nomatch h).keep K9 (fun hm => fdM (List.mem_singleton.mp hm ▸ .head _)) (fun hm => lcM (List.mem_singleton.mp hm ▸ .head _)), fr⟩
    obtain ⟨o, _, _, e, _⟩ := ns5
    rw [← List.mem_singleton.mp hm] at e
    exact Nat.lt_irrefl _ (Heap.lt_size e)
  case cutB =>
  rintro s6 ⟨h6, tk6, nr, rt, ru, rv, rfl, F6, N6, R6, C6, fd6, hnr⟩
  have hp8 : (2 : Nat) ^ wn ≤ 8 := Nat.pow_le_pow_right (by decide) w2
  have hp1 : 1 ≤ (2 : Nat) ^ wn := Nat.one_le_two_pow
  obtain ⟨pn, epn⟩ : ∃ pn : Nat, pn = 2 ^ wn := ⟨_, rfl⟩
  rw [← epn] at R6 hp8 hp1
  have il6 : h6.IsList il ivs.toArray := ⟨_, (N6 _ (.head _)).1, rfl, _, rfl⟩
  have ilN := N6 _ (.head _)
  have N6' := news_sub N6 (r := [(L + 6, c6), (L + 5, c5), (L + 4, c4), (L + 3, c3), (L + 2, c2'), (L + 1, c1')]) fun p hp => .tail _ hp
  have rsmall : Builtin.Range.small 0 (pn : Int) 1 = true := small_n (Nat.le_trans hp8 (by decide))
  have rsize : Builtin.Range.rangeSize 0 (pn : Int) 1 = (pn : Int) := size_n
  refine execs_cut (J6 w g L l fd lc il nr s c6 c5 c4 c1' c2' wn mn pn tw tm a) ?cutA ?cutB
  case cutA =>
    k_fold
    have c36 := (N6' _ (.tail _ (.tail _ (.tail _ (.head _))))).1
    have th4 : ∀ z ∈ fd :: lc :: (a.all ++ frm L), ∃ o, h4.get? z = some o := List.forall_mem_cons.mpr ⟨⟨_, feN.1⟩, List.forall_mem_cons.mpr ⟨⟨_, lcN.1⟩, fun z hz => (List.mem_append.mp hz).elim (C4.all_there z) (led_there F4 N4' z)⟩⟩
    have th5 : ∀ z ∈ fd :: lc :: il :: (a.all ++ frm L), ∃ o, h5.get? z = some o := List.forall_mem_cons.mpr ⟨let ⟨o, _, _, _, e, _⟩ := fd5; ⟨o, e⟩, List.forall_mem_cons.mpr ⟨let ⟨_, _, _, _, _, _, ⟨o, e, _⟩, _⟩ := fd5; ⟨o, e⟩, List.forall_mem_cons.mpr ⟨⟨_, (N5 _ (.head _)).1⟩, fun z hz => (List.mem_append.mp hz).elim (C5.all_there z) (fun hz => led_there F5 N5 z ((List.mem_cons.mp hz).elim (fun e => e ▸ .head _) fun hz => .tail _ (.tail _ hz)))⟩⟩⟩
    have th6 : ∀ z ∈ fd :: lc :: il :: nr :: (a.all ++ frm L), ∃ o, h6.get? z = some o := List.forall_mem_cons.mpr ⟨let ⟨o, _, _, _, e, _⟩ := fd6; ⟨o, e⟩, List.forall_mem_cons.mpr ⟨let ⟨_, _, _, _, _, _, ⟨o, e, _⟩, _⟩ := fd6; ⟨o, e⟩, List.forall_mem_cons.mpr ⟨⟨_, ilN.1⟩, List.forall_mem_cons.mpr ⟨⟨_, R6⟩, fun z hz => (List.mem_append.mp hz).elim (C6.all_there z) (led_there F6 N6' z)⟩⟩⟩⟩
    have ilO := not_there hil th4
    have nrO := not_there hnr th5
    k_steps
    rename Fr _ _ _ _ => F9
    rename News _ _ _ _ => N9
    refine' comp_K F9 N9 (fun _ => true) (fun _ y => y = .bool true) ?c1 ?c2 ?c3 ?c4 ?c5 ?_ ?c6
    case c1 => with_unfolding_all rfl
    case c2 => decide
    case c3 => exact rfl
    case c4 => decide
    case c5 => exact rfl
    case c6 => intro _; with_unfolding_all rfl
    k_steps
    refine ⟨pn, _, _, by assumption, by assumption, iter_range rfl R6 rsmall rsize, ?sz, tests_none, ?elts, ?after⟩
    case sz => exact line_n (Nat.le_trans hp8 (by decide))
    case elts =>
      intro D i v s₃ m₃ E' hC hP hp hn hm st
      k_steps
      exact ⟨rfl, _, _, rfl, fun _ _ e => e⟩
    case after =>
      intro D h' tk ys kk vs' F' N' hD hlen' hv' hF hst
      rw [filter_true] at hF
      have ey := paired_const hF
      rw [hlen'] at ey
      subst ey
      obtain ⟨d6, d5, d4, d3, d2, d1⟩ := off6 hD
      k_steps
      rename Fr _ _ _ _ => F8
      rename News _ _ _ _ => N8
      rename Keep _ _ _ => K8
      rename Obj.data _ = Data.cell (some (.ref _)) => c38
      rename _ ∧ Heap.get? _ _ = none => St2
      rename _ ∧ _ ≤ _ => St1
      have St12 : h'.StaysIn _ := fun b o e => St2.1 b o (St1.1 b o e)
      have S3 : h6.StaysIn _ := fun b o e => St12 b o (hst b o e)
      have ap : Ap L fd lc il nr _ a := Ap.make lt1 lt2 newa ilO nrO (not_there St2.2 fun z hz => let ⟨o, e⟩ := th6 z hz; ⟨o, St1.1 _ _ (hst _ _ e)⟩)
      have l3 : ∀ z ∈ fd :: lc :: il :: nr :: a.all, z ∉ [L + 3] := fun z hz hm => by
        refine ap.cells z ?_ (List.mem_singleton.mp hm ▸ by simp)
        simp only [List.mem_cons] at hz ⊢
        rcases hz with h | h | h | h | h
        · exact .inl h
        · exact .inr (.inl h)
        · exact .inr (.inr (.inl h))
        · exact .inr (.inr (.inr (.inl h)))
        · exact .inr (.inr (.inr (.inr (.inr h))))
      obtain ⟨n1, l3⟩ := List.forall_mem_cons.mp l3
      obtain ⟨n2, l3⟩ := List.forall_mem_cons.mp l3
      obtain ⟨n3, l3⟩ := List.forall_mem_cons.mp l3
      obtain ⟨n4, l3⟩ := List.forall_mem_cons.mp l3
      refine ⟨(by first | exact trivial | exact rfl), _, _, _, _, rfl, F8, news_sub N8 (fun p hp => .tail _ (.tail _ (.tail _ hp))), c38, ⟨(fd6.keep (Keep.of_stay (M := []) S3) (fun h => nomatch h) fun h => nomatch h).keep K8 n1 n2, (C6.stay S3).keepQ K8 (quiet_cell (S3 _ _ c36) q3') l3, ns0_good wn, ⟨ivs, ik, K8 _ _ n3 (S3 _ _ ilN.1), hiv⟩, ⟨_, _, _, K8 _ _ n4 (S3 _ _ R6)⟩,
        ⟨[.ref _], 0, (N8 _ (.head _)).1, rfl, fun v hv => ⟨1, List.replicate pn true, ?_, epn ▸ PG.one⟩⟩⟩, ap, (N8 _ (.head _)).2.2⟩
      rw [List.mem_singleton.mp hv]
      exact ⟨_, _, D, rfl, ⟨_, (N8 _ (.tail _ (.head _))).1, rfl, _, rfl⟩, ⟨_, (N8 _ (.tail _ (.tail _ (.head _)))).1, rfl, _, rfl⟩⟩
  case cutB =>
  rintro s7 ⟨h7, tk7, gl, c3', rfl, F7, N7, hc3, B7, ap, ggl⟩
  have newF : ∀ z ∈ fd :: lc :: il :: nr :: gl :: a.all, g.get? z = none ∧ z ∉ L :: [L + 6, L + 5, L + 4, L + 3, L + 2, L + 1] := by
    refine List.forall_mem_cons.mpr ⟨⟨feN.2.2, ap.cells _ (.head _)⟩, List.forall_mem_cons.mpr ⟨⟨lcN.2.2, ap.cells _ (.tail _ (.head _))⟩, List.forall_mem_cons.mpr ⟨⟨ilN.2.2, ap.cells _ (.tail _ (.tail _ (.head _)))⟩, List.forall_mem_cons.mpr ⟨⟨?_, ap.cells _ (.tail _ (.tail _ (.tail _ (.head _))))⟩, List.forall_mem_cons.mpr ⟨⟨ggl, ap.cells _ (.tail _ (.tail _ (.tail _ (.tail _ (.head _)))))⟩, fun z hz => ⟨(newa z hz).1, ap.cells z (.tail _ (.tail _ (.tail _ (.tail _ (.tail _ hz)))))⟩⟩⟩⟩⟩⟩
    cases q : g.get? nr with
    | none => rfl
    | some o => have := F5.keep _ _ q; rw [hnr] at this; cases this
  obtain ⟨gl6a, gl6b, gl6c, gl6d, gl6e, gl6f⟩ := ne6 fun hm => (newF gl (.tail _ (.tail _ (.tail _ (.tail _ (.head _)))))).2 (.tail _ hm)
  obtain ⟨il6a, il6b, il6c, il6d, il6e, il6f⟩ := ne6 fun hm => (newF il (.tail _ (.tail _ (.head _)))).2 (.tail _ hm)
  have ilgl : @Ne Nat il gl := fun e => ap.glA il (.tail _ (.tail _ (.head _))) (e ▸ .head _)
  refine execs_cut (J7 w g L l fd lc il nr gl s c6 c5 c1' c2' c3' wn mn pn tw tm a) ?cutA ?cutB
  case cutA =>
    k_fold
    refine' for_H F7 [L + 6, L + 5, L + 4, L + 3, L + 2, L + 1] (fd :: lc :: il :: nr :: gl :: a.all) [] (P7 w L l fd lc il nr gl c6 c5 c1' c2' c3' wn mn pn tw tm a) ?stab ?hfx ?hfg ?hfc ?hfc2 ?_ ?hs
    case hs => intro _; with_unfolding_all rfl
    case stab =>
      rintro i m c h h2 Z ⟨e1, ⟨o4, v, rfl, d4⟩, B⟩ K hZ F N hc
      exact ⟨e1, ⟨o4, v, rfl, d4⟩, B.stab ap F N hc (List.forall_mem_cons.mpr ⟨⟨_, q6'⟩, List.forall_mem_cons.mpr ⟨⟨_, q5'⟩, List.forall_mem_cons.mpr ⟨⟨_, d4⟩, List.forall_mem_cons.mpr ⟨⟨_, hc3⟩, List.forall_mem_cons.mpr ⟨⟨_, hc2⟩, List.forall_mem_cons.mpr ⟨⟨_, hc1⟩, fun _ h => nomatch h⟩⟩⟩⟩⟩⟩) K hZ⟩
    case hfx => rintro i m c h ⟨_, _, B⟩; exact B.there
    case hfg => exact newF
    case hfc => intro i m c h _ p hp; cases hp
    case hfc2 => intro p hp; cases hp
    k_steps
    rename Fr _ _ _ _ => F9
    rename News _ _ _ _ => N9
    rename IsRange _ _ _ _ _ _ _ _ => R9
    rename ∀ b o, Heap.get? _ b = some o → Heap.get? _ b = some o => St9
    have St9 : h7.StaysIn _ := St9
    refine ⟨wn, _, _, _, _, iter_range rfl R9 ?small ?size, F9, N9, rfl, ⟨rfl, ⟨c4, _, rfl, q4'⟩, B7.stay St9⟩, (fun b hb => nomatch hb), ?step, ?done⟩
    case small => exact small_n (Nat.le_trans w2 (by decide))
    case size => exact size_n
    case done =>
      rintro h tk m c F N hc ⟨rfl, ⟨o4, v, rfl, d4⟩, B⟩
      try k_unfold
      exact ⟨(by first | exact trivial | exact rfl), h, tk, o4, rfl, F, N, ⟨v, d4⟩, B⟩
    case step =>
      rintro i v m c h tk I oI hi' ⟨t, rfl⟩ ⟨rfl, ⟨o4, v4, rfl, d4⟩, B⟩ _ F N dI nIx nIc
      obtain ⟨gvs, nG, hg, hgl, hp⟩ := B.gates
      obtain ⟨ivs2, ik2, hi2, hiv2⟩ := B.ins
      have F : Fr g L h (mpN l wn mn tw tm nr il) := F
      obtain ⟨I6a, I6b, I6c, I6d, I6e, I6f⟩ := ne6 nIc
      have nIgl : @Ne Nat I gl := fun e => nIx (e ▸ .tail _ (.tail _ (.tail _ (.tail _ (.head _)))))
      have nIil : @Ne Nat I il := fun e => nIx (e ▸ .tail _ (.tail _ (.head _)))
      have NN : News g L h [(gl, listOf gvs.toArray nG), (il, listOf ivs2.toArray ik2), (I, oI), (L + 6, c6), (L + 5, c5), (L + 4, o4), (L + 3, c3'), (L + 2, c2'), (L + 1, c1')] :=
        List.forall_mem_cons.mpr ⟨⟨hg, fun e => (newF gl (.tail _ (.tail _ (.tail _ (.tail _ (.head _)))))).2 (e ▸ .head _), ggl⟩, List.forall_mem_cons.mpr ⟨⟨hi2, fun e => (newF il (.tail _ (.tail _ (.head _)))).2 (e ▸ .head _), (newF il (.tail _ (.tail _ (.head _)))).1⟩, N⟩⟩
      clear N F9 N9
      have elen := hiv2.length
      rw [List.length_map, List.length_range] at elen
      have kq0 : 0 ≤ (i : Int) := Int.natCast_nonneg i
      have kq1 : (i : Int) < (ivs2.length : Int) := by rw [elen]; exact Int.ofNat_lt.mpr hi'
      have kqz : ivs2.length ≤ 16777216 := by rw [elen]; exact Nat.le_trans w2 (by decide)
      have e4 := (NN _ (.tail _ (.tail _ (.tail _ (.tail _ (.tail _ (.head _))))))).1
      k_steps
      rename Fr _ _ _ _ => F9
      rename News _ _ _ [_, _, _, _, _, _, _, _, _] => N9
      rename Keep _ _ _ => K9
      rename Obj.data _ = Data.cell (some (.int _ _)) => d9
      revert hv'ω; revert v'ω; intro v' hv'
      obtain ⟨z, tz, rfl, hz⟩ := hiv2.at _ _ hv'
      rw [Int.toNat_natCast, List.getElem?_map, List.getElem?_range hi'] at hz
      cases hz
      have B9 := B.cell ap K9 (.tail _ (.tail _ (.tail _ (.head _)))) e4 d4
      have e49 := (N9 _ (.tail _ (.tail _ (.tail _ (.tail _ (.tail _ (.head _))))))).1
      refine' comp_K F9 N9 (fun _ => true) (fun v y => ∃ m t, v = .int m t ∧ y = .bool (bitZ m (i : Int))) ?c1 ?c2 ?c3 ?c4 ?c5 ?_ ?c6
      case c1 => with_unfolding_all rfl
      case c2 => decide
      case c3 => exact rfl
      case c4 => decide
      case c5 => exact rfl
      case c6 => intro _; with_unfolding_all rfl
      obtain ⟨rt9, ru9, rv9, R9'⟩ := B9.rng
      k_steps
      refine ⟨pn, _, _, by assumption, by assumption, iter_range rfl R9' rsmall rsize, ?sz, tests_none, ?elts, ?after⟩
      case sz => exact line_n (Nat.le_trans hp8 (by decide))
      case elts =>
        intro D j v s₃ m₃ E' hC hP hp' hn hm st
        obtain ⟨tj, rfl⟩ := hP
        have c4e : ∃ o, s₃.heap.get? (L + 1 + 1 + 1 + 1) = some o ∧ o.data = .cell (some (.int (i : Int) t)) := ⟨_, st _ _ e49, d9⟩
        k_steps
        exact ⟨⟨_, _, rfl, rfl⟩, _, _, rfl, fun _ _ e => e⟩
      case after =>
        intro D h' tk ys kk vs' F' N' hD hlen' hv' hF hst
        rw [filter_true] at hF
        have ey := paired_fun hlen' hv' hF
        subst ey
        have Dgl : @Ne Nat D gl := Ne.symm (hD _ (.head _))
        have esz : gvs.toArray.size = 1 + i := by rw [List.size_toArray, hgl]
        k_steps
        rename Fr _ _ _ _ => F8
        rename News _ _ _ _ => N8
        rename Keep _ _ _ => K8
        rename _ ∧ _ ≤ _ => St1
        have B7' := (B9.stay hst).stay St1.1
        have eg8 := St1.1 _ _ (hst _ _ (N9 _ (.head _)).1)
        refine TurnH.next F8 N8 (.tail _ (.tail _ (.tail _ (.tail _ (.head _))))) (fun p hp => .tail _ (.tail _ (.tail _ (.tail _ (.tail _ hp))))) rfl ⟨rfl, ⟨_, _, rfl, d9⟩, B7'.push ap eg8 K8 (N8 _ (.tail _ (.tail _ (.head _)))).1 ⟨_, _, D, rfl, ⟨_, (N8 _ (.head _)).1, rfl, _, rfl⟩, ⟨_, (N8 _ (.tail _ (.head _))).1, rfl, _, rfl⟩⟩ (epn ▸ PG.inp hi')⟩
  case cutB =>
  rintro s8 ⟨h8, tk8, c4', rfl, F8, N8, ⟨v4, hc4⟩, B8⟩
  clear F4 N4 N4' F5 N5 F6 N6 N6' F7 N7 C4 C5 C6 fd4 fd5 fd6 B7 R6 il6 hil hnr ilN feN lcN hiv
  refine execs_cut (J8 w g L l fd lc il nr gl s c1' c2' c3' c4' wn mn pn tw tm a) ?cutA ?cutB
  case cutA =>
    k_fold
    refine' for_H F8 [L + 6, L + 5, L + 4, L + 3, L + 2, L + 1] (fd :: lc :: il :: nr :: gl :: a.all) [] (P8 w L l fd lc il nr gl c1' c2' c3' c4' wn mn pn tw tm a) ?stab ?hfx ?hfg ?hfc ?hfc2 ?_ ?hs
    case hs => intro _; with_unfolding_all rfl
    case stab =>
      rintro i m c h h2 Z ⟨e1, ⟨o6, v6, o5, v5, rfl, d6, d5⟩, k, ns, kn, B, kb⟩ K hZ F N hc
      exact ⟨e1, ⟨o6, v6, o5, v5, rfl, d6, d5⟩, k, ns, kn, B.stab ap F N hc (List.forall_mem_cons.mpr ⟨⟨_, d6⟩, List.forall_mem_cons.mpr ⟨⟨_, d5⟩, List.forall_mem_cons.mpr ⟨⟨_, hc4⟩, List.forall_mem_cons.mpr ⟨⟨_, hc3⟩, List.forall_mem_cons.mpr ⟨⟨_, hc2⟩, List.forall_mem_cons.mpr ⟨⟨_, hc1⟩, fun _ h => nomatch h⟩⟩⟩⟩⟩⟩) K hZ, kb⟩
    case hfx => rintro i m c h ⟨_, _, _, _, _, B, _⟩; exact B.there
    case hfg => exact newF
    case hfc => intro i m c h _ p hp; cases hp
    case hfc2 => intro p hp; cases hp
    k_steps
    rename Fr _ _ _ _ => F9
    rename News _ _ _ _ => N9
    rename IsRange _ _ _ _ _ _ _ _ => R9
    rename ∀ b o, Heap.get? _ b = some o → Heap.get? _ b = some o => St9
    have St9 : h8.StaysIn _ := St9
    refine ⟨mn, _, _, _, _, iter_range rfl R9 ?small ?size, fr_eqm F9 (mT_none _ rfl rfl rfl), N9, rfl, ⟨⟨_, _, _, rfl⟩, ⟨c6, _, c5, _, rfl, q6', q5'⟩, 2, ns0 wn, [], B8.stay St9, by decide, by decide, by rw [ns0_len, Nat.mul_zero, Nat.add_zero, Nat.add_comm]; exact Nat.le_refl _⟩, (fun b hb => nomatch hb), ?step, ?done⟩
    case small => exact small_n (Nat.le_trans m2 (by decide))
    case size => exact size_n
    case done =>
      rintro h tk m c F N hc ⟨⟨b1, b2, b3, rfl⟩, ⟨o6, v6, o5, v5, rfl, d6, d5⟩, k, ns, kn, B, k0, k1, nl⟩
      try k_unfold
      exact ⟨(by first | exact trivial | exact rfl), h, tk, o6, o5, b1, b2, b3, k, ns, kn, rfl, F, N, ⟨_, d6⟩, ⟨_, d5⟩, B, nl⟩
    case step =>
      rintro i v m c h tk I oI hi' ⟨t, rfl⟩ ⟨⟨b1, b2, b3, rfl⟩, ⟨o6, v6, o5, v5, rfl, d6, d5⟩, k, ns, kn, B, k0, k1, nl⟩ _ F N dI nIx nIc
      have F : Fr g L h (mT (mpN l wn mn tw tm nr il) b1 b2 b3) := F
      have N : News g L h [(I, oI), (L + 6, o6), (L + 5, o5), (L + 4, c4'), (L + 3, c3'), (L + 2, c2'), (L + 1, c1')] := N
      have i8 : i ≤ 8 := Nat.le_of_lt (Nat.lt_of_lt_of_le hi' m2)
      obtain ⟨I6a, I6b, I6c, I6d, I6e, I6f⟩ := ne6 nIc
      refine' wpAny_assign_Name (st_loc F N ?sa ?sb ?sc ?_)
      case sa => exact rfl
      case sb => exact rfl
      case sc => exact rfl
      intro ha Fa Na Ka
      have Ba := B.loc ap Ka F.ns
      have Fa := fr_eqm Fa (mT_lap _)
      clear F N B Ka
      have fdF := newF fd (.head _)
      have fdc : ∀ {o5 : Obj}, fd ∉ [(I, oI), (L + 6, o6), (L + 5, o5), (L + 4, c4'), (L + 3, c3'), (L + 2, c2'), (L + 1, c1')].map (·.1) := fun hm => by
        rcases List.mem_cons.mp hm with h | h
        · exact nIx (h ▸ .head _)
        · exact fdF.2 (.tail _ h)
      have fdL : fd ≠ L := fun e => fdF.2 (e ▸ .head _)
      refine execs_cut (J8a w g L l fd lc il nr gl I s c1' c2' c3' c4' o6 oI wn mn pn i tw tm t a b1 b2 k ns kn) ?c8aA ?c8aB
      case c8aA =>
        k_fold
        k_steps
        rename Fr _ _ _ _ => F1
        rename News _ _ _ _ => N1
        refine next_H X T F1 N1 fdF.1 fdL fdc Ba.feed nlf (Nat.le_trans dpA (by decide)) (Nat.le_trans unA (by decide)) k0 (k_small k0 k1 i8).1 (by decide) (by decide) ?_
        intro h2 r tr tk2 F2 N2 K2 f2 r0 r1
        have B2 := Ba.setFeed ap K2 f2
        have e5 := (N2 _ (.tail _ (.tail _ (.head _)))).1
        k_steps
        rename Fr _ _ _ _ => F3
        rename News _ _ _ _ => N3
        rename Keep _ _ _ => K3
        rename Obj.data _ = Data.cell (some (.int r _)) => d3
        exact ⟨(by first | exact trivial | exact rfl), _, _, r, tr, _, rfl, F3, N3, d3, r0, by omega, B2.cell ap K3 (.tail _ (.tail _ (.head _))) e5 d5⟩
      case c8aB =>
      rintro sa ⟨hb, tkb, kd, tkd, o5', rfl, Fb, Nb, dkd, kd0, kd7, Bb⟩
      clear Fa Na Ba
      refine execs_cut (J8b w g L l fd lc il nr gl I s c1' c2' c3' c4' o6 o5' oI wn mn pn i tw tm t a b1 k kd ns kn) ?c8bA ?c8bB
      case c8bA =>
        k_fold
        have nsb := Fb.ns
        k_steps
        · rename Fr _ _ _ _ => F1
          rename News _ _ _ _ => N1
          refine next_H X T F1 N1 fdF.1 fdL fdc Bb.feed nlf (Nat.le_trans dpA (by decide)) (Nat.le_trans unA (by decide)) (k_small k0 k1 i8).2.1 (k_small k0 k1 i8).2.2 (by decide) (by decide) ?_
          intro h2 r tr tk2 F2 N2 K2 f2 r0 r1
          have B2 := Bb.setFeed ap K2 f2
          obtain ⟨rn, rfl⟩ : ∃ rn : Nat, r = (rn : Int) := ⟨r.toNat, by omega⟩
          have ns2 := F2.ns
          k_steps
          rename Fr _ _ _ _ => F3
          rename News _ _ _ _ => N3
          rename Keep _ _ _ => K3
          exact ⟨(by first | exact trivial | exact rfl), _, _, rn, tr, k + 1 + 1, rfl, fr_eqm F3 (mT_count _), N3, by omega, by omega, by omega, by omega, by omega, B2.loc ap K3 ns2⟩
        · rename Fr _ _ _ _ => F3
          rename News _ _ _ _ => N3
          rename Keep _ _ _ => K3
          have F4 := fr_eqm F3 (mT_count _)
          have B4 := Bb.loc ap K3 nsb
          refine ⟨(by first | exact trivial | exact rfl), _, _, 2, _, k + 1, rfl, F4, N3, by omega, by omega, by omega, by omega, by omega, B4⟩
        · rename Fr _ _ _ _ => F3
          rename News _ _ _ _ => N3
          rename Keep _ _ _ => K3
          have F4 := fr_eqm F3 (mT_count _)
          have B4 := Bb.loc ap K3 nsb
          refine ⟨(by first | exact trivial | exact rfl), _, _, 3, _, k + 1, rfl, F4, N3, by omega, by omega, by omega, by omega, by omega, B4⟩
      case c8bB =>
      rintro sb ⟨hc, tkc, cn, tcn, k', rfl, Fc, Nc, cn4, cn2, cn3, kc0, kc1, Bc⟩
      clear Fb Nb Bb
      refine execs_cut (J8c w g hc L l fd lc il nr gl I s c1' c2' c3' c4' o5' oI wn mn pn i cn tw tm t tcn a b1 k' ns kn) ?c8cA ?c8cB
      case c8cA =>
        k_fold
        k_steps
        refine' comp_range ?x1 ?x2 ?x3 ?x4 ?x5 ?x6 ?_ ?x7
        case x1 => with_unfolding_all rfl
        case x2 => decide
        case x3 => exact rfl
        case x4 => decide
        case x5 => exact rfl
        case x6 => exact rfl
        case x7 => intro _; with_unfolding_all rfl
        k_steps
        rename Fr _ _ _ _ => F1
        rename News _ _ _ _ => N1
        rename IsRange _ _ _ _ _ _ _ _ => R1
        rename ∀ b o, Heap.get? _ b = some o → Heap.get? _ b = some o => St1
        have St1 : hc.StaysIn _ := St1
        have B1 := Bc.stay St1
        have c6e := (N1 _ (.tail _ (.head _))).1
        have fg : ∀ b ∈ [fd], g.get? b = none := fun b hb => List.mem_singleton.mp hb ▸ fdF.1
        have fL : L ∉ [fd] := fun hm => fdL (List.mem_singleton.mp hm).symm
        have fN : ∀ p ∈ [(I, oI), (L + 6, o6), (L + 5, o5'), (L + 4, c4'), (L + 3, c3'), (L + 2, c2'), (L + 1, c1')], p.1 ∉ [fd] := fun p hp hm => fdc (o5 := o5') (List.mem_singleton.mp hm ▸ List.mem_map_of_mem (f := (·.1)) hp)
        have n6 : ∀ z ∈ fd :: lc :: il :: nr :: gl :: a.all, z ∉ [L + 6] := fun z hz hm => ap.cells z hz (List.mem_singleton.mp hm ▸ .tail _ (.head _))
        refine ⟨_, _, _, _, _, cn, [L + 6], [fd], fun j h ys => Feed w h fd lc (k' + 2 * (j : Int)) ∧ ∃ prs, Paired (Drawn1 h ns wn) ys prs, rfl, R1, ?small8, ?size8, ?sz8, ?hM, ?hY, ?h0, ?elts, ?fin⟩
        case small8 => exact small_n (Nat.le_trans cn4 (by decide))
        case size8 => exact size_n
        case sz8 => exact line_n (Nat.le_trans cn4 (by decide))
        case hM => exact fun b hb => B1.there b (List.mem_singleton.mp hb ▸ .head _)
        case hY => exact fun b hb => List.mem_singleton.mp hb ▸ ⟨_, c6e⟩
        case h0 =>
          intro h'' K
          refine ⟨?_, [], .nil⟩
          have := B1.feed.keep K (n6 _ (.head _)) (n6 _ (.tail _ (.head _)))
          rw [show k' + 2 * ((0 : Nat) : Int) = k' from by omega]; exact this
        case elts =>
          rintro Z D CC j tj s₃ m₃ ys hD hC hZ hZq hl hj hlen hn hm hK ⟨fJ, prs, hJ⟩
          have B3 := B1.setFeed ap hK fJ
          have j4 : j ≤ 4 := Nat.le_of_lt (Nat.lt_of_lt_of_le hj cn4)
          obtain ⟨F3, N3⟩ := after F1 N1 hK fg fL fN
          have st3 : g.StaysIn s₃.heap := F3.keep
          have X3 := Frag.In.keeps X st3
          have T3 := T.keeps st3
          have c1e : ∃ o, s₃.heap.get? (L + 1) = some o ∧ o.data = .cell (some (.ref fd)) := ⟨_, (N3 _ (.tail _ (.tail _ (.tail _ (.tail _ (.tail _ (.tail _ (.head _)))))))).1, hc1⟩
          have c3e : ∃ o, s₃.heap.get? (L + 1 + 1 + 1) = some o ∧ o.data = .cell (some (.ref gl)) := ⟨_, (N3 _ (.tail _ (.tail _ (.tail _ (.tail _ (.head _)))))).1, hc3⟩
          obtain ⟨gvs, nG, hg, hgl, hp⟩ := B3.gates
          k_steps
          refine pick_H X T st3 fdF.1 fJ nlf (Nat.le_trans dpA (by decide)) (Nat.le_trans unA (by decide)) (k_le kc0 kc1 k1 i8 j4).1 (k_le kc0 kc1 k1 i8 j4).2 w2 hg hp (gl_le hgl w2 i8).1 (gl_le hgl w2 i8).2 ?_
          intro h8 v x row tk8 K8 f8 p8 pg8
          k_unfold
          have q8 : Quiet h8 Z := z_quiet hZ hZq hl (drawn_first hJ) (quiet_cell (N3 _ (.tail _ (.head _))).1 d6) (fun z hz => List.mem_singleton.mp hz ▸ ⟨_, (N3 _ (.tail _ (.head _))).1⟩) (fun b hb => B1.there b (List.mem_singleton.mp hb ▸ .head _)) (fun z hz hm => n6 z (List.mem_singleton.mp hm ▸ .head _) hz) K8
          have zz : ∀ z ∈ [fd, lc], z ∉ Z := fun z hz => by
            obtain ⟨o, e⟩ := B1.there z (by rcases List.mem_cons.mp hz with rfl | hz; exact .head _; exact List.mem_singleton.mp hz ▸ .tail _ (.head _))
            exact z_off hZ e (n6 z (by rcases List.mem_cons.mp hz with rfl | hz; exact .head _; exact List.mem_singleton.mp hz ▸ .tail _ (.head _)))
          refine ⟨h8, tk8, rfl, K8, fun h'' K'' => ⟨?_, prs ++ [(x, row)], paired_snoc (drawn_keep K'' q8 (drawn_keep K8 B3.feed.quiet hJ)) ⟨p8.keepQ K'' q8 pg8.ne, pg8⟩⟩⟩
          have := f8.keep K'' (zz _ (.head _)) (zz _ (.tail _ (.head _)))
          rw [show k' + 2 * ((j + 1 : Nat) : Int) = k' + 2 * (j : Int) + 2 from by omega]; exact this
        case fin =>
          rintro sl h7 tk7' svs sk hsl esl hsvl ⟨f7, prs, hJ⟩ K7
          obtain ⟨F7, N7⟩ := after F1 N1 K7 fg fL fN
          have B7 := B1.setFeed ap K7 f7
          have sl0 : hc.get? sl = none := by
            cases q : hc.get? sl with
            | none => rfl
            | some o => have := St1 _ _ q; rw [hsl] at this; cases this
          have slc : sl ≠ L + 6 := fun e => by rw [e, c6e] at hsl; cases hsl
          have c6e7 := (N7 _ (.tail _ (.head _))).1
          k_steps
          rename Fr _ _ _ _ => F8
          rename News _ _ _ _ => N8
          rename Keep _ _ _ => K8
          rename Obj.data _ = Data.cell (some (.ref sl)) => d68
          refine ⟨(by first | exact trivial | exact rfl), _, _, sl, svs, sk, _, _, prs, rfl, F8, N8, d68, K8 _ _ (fun hm => slc (List.mem_singleton.mp hm)) esl, drawn_keep K8 (quiet_cell c6e7 d6) hJ, hsvl, ?_, ?_, B7.cell ap K8 (.tail _ (.head _)) c6e7 d6, sl0⟩
          · exact (k_in (k := k') kc0 cn4).1
          · exact (k_in (k := k') kc0 cn4).2
      case c8cB =>
      rintro sc ⟨hd, tkd', sl, svs, sk, o6', k'', prs, rfl, Fd, Nd, d6', esl, hdr, hsl, kd0', kd1', Bd, fsl⟩
      have hdth := Bd.there
      refine execs_cut (J8d w g hd L l fd lc il nr gl I sl s c1' c2' c3' c4' o5' o6' oI svs wn mn pn i cn sk tw tm t tcn a k'' kd ns kn prs) ?c8dA ?c8dB
      case c8dA =>
        k_fold
        refine' asg_row (g := g) (L := L) ?x0 ?x1 ?x2 ?x3 ?x4 ?x5 ?x6 ?x7 ?x8 ?x9 ?x10 ?_ ?x11
        case x0 => with_unfolding_all rfl
        case x1 => with_unfolding_all rfl
        case x2 => exact rfl
        case x3 => decide
        case x4 => intro n; exact rfl
        case x5 => intro h; exact rfl
        case x6 => intro C; exact rfl
        case x7 => exact rfl
        case x8 => exact rfl
        case x9 => exact rfl
        case x10 => exact rfl
        case x11 => intro _; with_unfolding_all rfl
        obtain ⟨rtd, rud, rvd, Rd⟩ := Bd.rng
        k_steps
        rename Fr _ _ _ _ => F1
        rename News _ _ _ _ => N1
        refine ⟨_, _, _, _, _, pn, fun j y => y = .bool (deed kd (prs.map fun q => q.2.getD j false)), _, _, rfl, Rd, rsmall, rsize, ?szd, F1, N1, ?elts, ?fin⟩
        case szd => exact line_n (Nat.le_trans hp8 (by decide))
        case elts =>
          intro CC j tj s₃ m₃ E' hj hn hm st
          have F3 := F1.keeps st
          have N3 := N1.grown st
          have X3 := Frag.In.keeps X F3.keep
          have T3 := T.keeps F3.keep
          have c5e : ∃ o, s₃.heap.get? (L + 1 + 1 + 1 + 1 + 1) = some o ∧ o.data = .cell (some (.int kd tkd)) := ⟨_, (N3 _ (.tail _ (.tail _ (.head _)))).1, dkd⟩
          have c6e : ∃ o, s₃.heap.get? (L + 1 + 1 + 1 + 1 + 1 + 1) = some o ∧ o.data = .cell (some (.ref sl)) := ⟨_, (N3 _ (.tail _ (.head _))).1, d6'⟩
          k_steps
          refine' comp_K F3 N3 (fun _ => true) (fun v y => ∃ q, Drawn1 hd ns wn v q ∧ y = .bool (q.2.getD j false)) ?y1 ?y2 ?y3 ?y4 ?y5 ?_ ?y6
          case y1 => with_unfolding_all rfl
          case y2 => decide
          case y3 => exact rfl
          case y4 => decide
          case y5 => exact rfl
          case y6 => intro _; with_unfolding_all rfl
          have lsl : s₃.heap.IsList sl svs.toArray := ⟨_, st _ _ esl, rfl, _, rfl⟩
          k_steps
          refine ⟨_, _, _, by assumption, by assumption, iter_list rfl lsl, ?szi, tests_none, ?eltsi, ?afteri⟩
          case szi => rw [List.size_toArray, hsl]; exact line_n (Nat.le_trans cn4 (by decide))
          case eltsi =>
            intro DD jj v s₅ m₅ E5 hC5 hP5 hp5 hn5 hm5 st5
            obtain ⟨q, _, hq⟩ := paired_at hdr (by simpa using hP5)
            obtain ⟨⟨p, tq, ra, rfl, htu, hra⟩, pg⟩ := id hq
            have st05 : ∀ b o, hd.get? b = some o → s₅.heap.get? b = some o := fun b o e => st5 _ _ (st _ _ e)
            have htu5 : IsTup s₅.heap p _ := stay_tup st05 htu
            have hra5 : s₅.heap.IsList ra _ := stay_list st05 hra
            have ql : (j : Int) < (q.2.length : Int) := by rw [pg.len, ← epn]; exact Int.ofNat_lt.mpr hj
            have ql8 : q.2.length ≤ 16777216 := by rw [pg.len, ← epn]; exact Nat.le_trans hp8 (by decide)
            have ql0 : 0 ≤ (j : Int) := Int.natCast_nonneg j
            have cNe : ∃ o, s₅.heap.get? (CC + 1) = some o ∧ o.data = .cell (some (.int (j : Int) tj)) := let ⟨o, e, d⟩ := hm; ⟨o, st5 _ _ e, d⟩
            k_steps
            exact ⟨⟨q, hq, by rw [Int.toNat_natCast]⟩, _, _, rfl, fun _ _ e => e⟩
          case afteri =>
            intro D h' tk' ys kk vs' F' N' hD hlen' hv' hF hst
            rw [filter_true, list_of_places hlen' hv'] at hF
            have ey := paired_map (paired_cols hdr hF)
            subst ey
            have epl := hdr.length
            k_steps
            refine deed_spec ⟨X, T⟩ (fun b o e => hst _ _ (F3.keep b o e)) kd tkd D (prs.map fun q => q.2.getD j false) (Nat.le_trans dpA (by decide)) (Nat.le_trans unA (by decide)) ?hlD ?hln kd0 kd7 ?hl2 ?hl3 ?_
            case hlD => rw [List.map_map]; exact ⟨_, (N' _ (.head _)).1, rfl, _, rfl⟩
            case hln => rw [List.length_map, ← epl, hsl]; exact Nat.le_trans cn4 (by decide)
            case hl2 => intro z; rw [List.length_map, ← epl, hsl]; exact cn_two kd7 cn2 cn3 z
            case hl3 => intro z; rw [List.length_map, ← epl, hsl, cn3 z]; decide
            intro h8 tk8 st8 sz8
            exact ⟨rfl, h8, tk8, rfl, fun b o e => st8 _ _ (hst _ _ e)⟩
        case fin =>
          intro rl h' tk' ys kk F' N' hD hlen' hF hst
          have ey := paired_rows hlen' hF
          subst ey
          have KL : Keep [L] hd h' := fun b o n e => hst b o (fun q => n (q ▸ .head _)) e
          have nsL := F1.ns
          have slL : sl ≠ L := fun e => by
            obtain ⟨o, _, _, eo, d, _⟩ := nsL
            rw [← e, esl] at eo; cases eo; cases d
          try k_unfold
          exact ⟨(by first | exact trivial | exact rfl), _, _, rl, kk, rfl, fr_eqm F' (mT_row _), news_sub N' (fun p hp => .tail _ hp), hst sl _ slL esl, (N' _ (.head _)).1, drawn_keep KL (quiet_ns nsL) hdr, Bd.loc ap KL nsL, hD⟩
      case c8dB =>
      rintro sd ⟨he, tke, rl, rk, rfl, Fe, Ne_, esl', erl, hdr', Be, frl⟩
      clear Fc Nc Bc Fd Nd Bd
      refine id ?c8eA
      case c8eA =>
        k_fold
        obtain ⟨gvs, nG, hg, hgl, hp⟩ := Be.gates
        have nIgl : @Ne Nat I gl := fun e => nIx (e ▸ .tail _ (.tail _ (.tail _ (.tail _ (.head _)))))
        have NN : News g L he [(gl, listOf gvs.toArray nG), (I, oI), (L + 6, o6'), (L + 5, o5'), (L + 4, c4'), (L + 3, c3'), (L + 2, c2'), (L + 1, c1')] :=
          List.forall_mem_cons.mpr ⟨⟨hg, fun e => (newF gl (.tail _ (.tail _ (.tail _ (.tail _ (.head _)))))).2 (e ▸ .head _), ggl⟩, Ne_⟩
        clear Ne_
        have epl := hdr'.length
        k_steps
        rename Fr _ _ _ _ => F1
        rename News _ _ _ _ => N1
        refine' comp_K F1 N1 (fun _ => true) (fun v y => ∃ q, Drawn1 he ns wn v q ∧ ∃ t, y = .int q.1 t) ?y1 ?y2 ?y3 ?y4 ?y5 ?_ ?y6
        case y1 => with_unfolding_all rfl
        case y2 => decide
        case y3 => exact rfl
        case y4 => decide
        case y5 => exact rfl
        case y6 => intro _; with_unfolding_all rfl
        have lsl : he.IsList sl svs.toArray := ⟨_, esl', rfl, _, rfl⟩
        k_steps
        refine ⟨_, _, _, by assumption, by assumption, iter_list rfl lsl, ?szi, tests_none, ?eltsi, ?afteri⟩
        case szi => rw [List.size_toArray, hsl]; exact line_n (Nat.le_trans cn4 (by decide))
        case eltsi =>
          intro DD jj v s₅ m₅ E5 hC5 hP5 hp5 hn5 hm5 st5
          obtain ⟨q, _, hq⟩ := paired_at hdr' (by simpa using hP5)
          obtain ⟨⟨p, tq, ra, rfl, htu, hra⟩, pg⟩ := id hq
          have htu5 : IsTup s₅.heap p _ := stay_tup st5 htu
          k_steps
          exact ⟨⟨q, hq, _, rfl⟩, _, _, rfl, fun _ _ e => e⟩
        case afteri =>
          intro D h' tk' ys kk vs' F' N' hD hlen' hv' hF hst
          rw [filter_true, list_of_places hlen' hv'] at hF
          have hys := paired_ints (paired_cols hdr' hF)
          have eyl := hys.length
          rw [List.length_map] at eyl
          have B1 := Be.stay hst
          have offM : ∀ p ∈ [(gl, listOf gvs.toArray nG), (I, oI), (L + 6, o6'), (L + 5, o5'), (L + 4, c4'), (L + 3, c3'), (L + 2, c2'), (L + 1, c1')], p.1 ∉ a.mods :=
            List.forall_mem_cons.mpr ⟨ap.circA gl (.tail _ (.tail _ (.tail _ (.tail _ (.head _))))), List.forall_mem_cons.mpr ⟨fun hm => nIx (.tail _ (.tail _ (.tail _ (.tail _ (.tail _ (mods_all _ hm)))))), fun p hp hm => (newF p.1 (.tail _ (.tail _ (.tail _ (.tail _ (.tail _ (mods_all _ hm))))))).2 (.tail _ (List.mem_map_of_mem (f := (·.1)) hp))⟩⟩
          have gM : ∀ b ∈ a.mods, g.get? b = none := fun b hb => (newa b (mods_all b hb)).1
          have LM : L ∉ a.mods := fun hm => (newa L (mods_all _ hm)).2 (.head _)
          have rlF := not_there frl hdth
          have rlM : rl ∉ a.mods := fun hm => rlF (.tail _ (.tail _ (.tail _ (.tail _ (.tail _ (mods_all _ hm))))))
          have rlg : rl ∉ [gl] := fun hm => rlF (List.mem_singleton.mp hm ▸ .tail _ (.tail _ (.tail _ (.tail _ (.head _)))))
          have esz : gvs.toArray.size = 1 + wn + i := by rw [List.size_toArray, hgl]
          k_steps
          refine made_t ⟨X, T⟩ (fun b o e => F'.keep b o e) a ns kn B1.circ B1.good (fresh_of newa) kd tkd (prs.map (·.1)) ys D ⟨_, (N' _ (.head _)).1, rfl, _, rfl⟩ hys ?hx ?hxl kd0 kd7 ?h2 ?h3 dpA unA (Nat.le_trans (nl_le nl w2 i8) (by decide)) ?_
          case hx =>
            intro x hx
            obtain ⟨q, hq, rfl⟩ := List.mem_map.mp hx
            exact (drawn_pg hdr' q hq).1
          case hxl => rw [List.length_map, ← epl, hsl]; exact Nat.le_trans cn4 (by decide)
          case h2 => intro z z2; rw [List.length_map, ← epl, hsl]; exact cn2 z z2
          case h3 => intro z; rw [List.length_map, ← epl, hsl]; exact cn3 z
          intro h8 r t8 tk8 ns' kn' Gr Lr V C8 K8 sz8
          have B8 := B1.setCirc ap K8 C8 Gr
          obtain ⟨F8, N8⟩ := after F' (news_sub N' (fun p hp => .tail _ hp)) K8 gM LM offM
          have eg8 := (N8 _ (.head _)).1
          clear N'
          k_steps
          rename Fr _ _ _ _ => F9
          rename News _ _ _ _ => N9
          rename Keep _ _ _ => K9
          rename _ ∧ _ ≤ _ => St9
          have B9 := B8.stay St9.1
          have er8 := St9.1 _ _ (K8 _ _ rlM (hst _ _ erl))
          have gl9 := Gr.len
          refine TurnH.next F9 N9 (.tail _ (.tail _ (.head _))) (fun p hp => .tail _ (.tail _ (.tail _ hp))) rfl ⟨⟨_, _, _, rfl⟩, ⟨o6', _, o5', _, rfl, d6', dkd⟩, k'', ns', kn', B9.push ap (St9.1 _ _ eg8) K9 (N9 _ (.tail _ (.head _))).1 ⟨_, _, rl, rfl, ⟨_, (N9 _ (.head _)).1, rfl, _, rfl⟩, ⟨_, K9 _ _ rlg er8, rfl, _, rfl⟩⟩ (PG.deed Lr V ?_), kd0', k_next k1 kc1 kd1', nl_next nl gl9⟩
          rw [epn]; exact row_deed (drawn_pg hdr')
  case cutB =>
  rintro s9 ⟨h9, tk9, o6, o5, b1, b2, b3, k9, ns, kn, rfl, F9, N9, ⟨v6, d6⟩, ⟨v5, d5⟩, B9, nl9⟩
  refine execs_cut (J9 w g L l fd lc il nr gl s c1' c2' c3' c4' o6 o5 wn mn pn tw tm a b1 b2 b3 k9 ns kn) ?cutA ?cutB
  case cutA =>
    k_fold
    k_steps
    rename Fr _ _ _ _ => F1
    rename News _ _ _ _ => N1
    refine read_K F1 N1 X T dpA unA ?_
    intro h2 ri rd tk2 tc nri nrd F2 N2 K2 I2
    have ns1 := F1.ns
    have ns2 := F2.ns
    have K2 : Keep [L] h9 h2 := fun b o n e => K2 b o (fun q => n (q ▸ .head _)) e
    have B2 := B9.loc ap K2 ns1
    have fri := new_off F1 N1 nri
    have frd := new_off F1 N1 nrd
    k_steps
    rename Fr _ _ _ _ => F3
    rename News _ _ _ _ => N3
    rename Keep _ _ _ => K3
    refine ⟨(by first | exact trivial | exact rfl), _, _, ri, rd, tc, rfl, F3, N3, B2.loc ap K3 ns2, inst_keep K3 (fun hm => fri.2 (List.mem_singleton.mp hm ▸ .head _)) (fun hm => frd.2 (List.mem_singleton.mp hm ▸ .head _)) rfl I2, List.forall_mem_cons.mpr ⟨fri, List.forall_mem_cons.mpr ⟨frd, fun _ h => nomatch h⟩⟩⟩
  case cutB =>
  rintro s10 ⟨h10, tk10, ri, rd, tc, rfl, F10, N10, B10, I10, newR⟩
  clear F9 N9 B9
  obtain ⟨m10, em10⟩ : ∃ m : Str → Option Value, m = (fun z => if z = Str.ofString "reading" then some (.ref ri) else mT (mpN l wn mn tw tm nr il) b1 b2 b3 z) := ⟨_, rfl⟩
  refine execs_cut (J10 g L s) ?cutA ?cutB
  case cutA =>
    k_fold
    have cdat : ∀ p ∈ [(L + 6, o6), (L + 5, o5), (L + 4, c4'), (L + 3, c3'), (L + 2, c2'), (L + 1, c1')], ∃ v, p.2.data = .cell v := List.forall_mem_cons.mpr ⟨⟨_, d6⟩, List.forall_mem_cons.mpr ⟨⟨_, d5⟩, List.forall_mem_cons.mpr ⟨⟨_, hc4⟩, List.forall_mem_cons.mpr ⟨⟨_, hc3⟩, List.forall_mem_cons.mpr ⟨⟨_, hc2⟩, List.forall_mem_cons.mpr ⟨⟨_, hc1⟩, fun _ h => nomatch h⟩⟩⟩⟩⟩⟩
    refine' for_H F10 [L + 6, L + 5, L + 4, L + 3, L + 2, L + 1] (ri :: rd :: fd :: lc :: il :: nr :: gl :: a.all) [] (P10 w L l fd lc il nr gl ri rd c1' c2' c3' c4' o6 o5 wn mn pn tw tm tc a b1 b2 b3 k9 ns kn) ?stab ?hfx ?hfg ?hfc ?hfc2 ?_ ?hs
    case hs => intro _; with_unfolding_all rfl
    case stab =>
      rintro i m c h h2 Z ⟨e1, rfl, B, II⟩ K hZ F N hc
      refine ⟨e1, rfl, B.stab ap F N hc cdat K fun z hz => (hZ z hz).imp id (fun ⟨p, q⟩ => ⟨fun hm => p (.tail _ (.tail _ hm)), q⟩), inst_keep K (fun hm => ?_) (fun hm => ?_) rfl II⟩
      · exact (hZ ri hm).elim (newR ri (.head _)).2 fun q => q.1 (.head _)
      · exact (hZ rd hm).elim (newR rd (.tail _ (.head _))).2 fun q => q.1 (.tail _ (.head _))
    case hfx => rintro i m c h ⟨_, _, B, II⟩; exact List.forall_mem_cons.mpr ⟨⟨_, II.at_⟩, List.forall_mem_cons.mpr ⟨⟨_, II.dict⟩, B.there⟩⟩
    case hfg => exact List.forall_mem_cons.mpr ⟨newR ri (.head _), List.forall_mem_cons.mpr ⟨newR rd (.tail _ (.head _)), newF⟩⟩
    case hfc => intro i m c h _ p hp; cases hp
    case hfc2 => intro p hp; cases hp
    obtain ⟨rtd, rud, rvd, Rd⟩ := B10.rng
    k_steps
    rename Fr _ _ _ _ => F1
    rename News _ _ _ _ => N1
    refine ⟨pn, _, _, _, _, iter_range rfl Rd rsmall rsize, fr_eqm F1 (mU_none _ rfl rfl rfl rfl), N1, rfl, ⟨⟨_, _, _, _, rfl⟩, rfl, B10, I10⟩, (fun b hb => nomatch hb), ?step, ?done⟩
    case done =>
      rintro h tk m c F N hc _
      try k_unfold
      exact ⟨(by first | exact trivial | exact rfl), h, tk, m, rfl, F⟩
    case step =>
      rintro i v m c h tk I oI hi' ⟨t, rfl⟩ ⟨⟨u1, u2, u3, u4, rfl⟩, rfl, B, II⟩ _ F N dI nIx nIc
      have F : Fr g L h (mU (fun z => if z = Str.ofString "reading" then some (.ref ri) else mT (mpN l wn mn tw tm nr il) b1 b2 b3 z) u1 u2 u3 u4) := F
      have N : News g L h [(I, oI), (L + 6, o6), (L + 5, o5), (L + 4, c4'), (L + 3, c3'), (L + 2, c2'), (L + 1, c1')] := N
      clear F1 N1
      obtain ⟨I6a, I6b, I6c, I6d, I6e, I6f⟩ := ne6 nIc
      have rL : ∀ z ∈ [ri, rd], z ∉ [L] := fun z hz hm => (newR z hz).2 (List.mem_singleton.mp hm ▸ .head _)
      refine' wpAny_assign_Name (st_loc F N ?sa ?sb ?sc ?_)
      case sa => exact rfl
      case sb => exact rfl
      case sc => exact rfl
      intro ha Fa Na Ka
      have Ba := B.loc ap Ka F.ns
      have Ia := inst_keep Ka (rL ri (.head _)) (rL rd (.tail _ (.head _))) rfl II
      have Fa := fr_eqm Fa (mU_number _)
      clear F N B Ka II
      refine execs_cut (J10a w g L l fd lc il nr gl I ri rd s c1' c2' c3' c4' o6 o5 oI wn mn pn i tw tm t tc a b1 b2 b3 u1 u2 k9 ns kn) ?d10aA ?d10aB
      case d10aA =>
        k_fold
        obtain ⟨ivs, ik, hin, hin2⟩ := Ba.ins
        have nd : ((List.range wn).map fun j => ((j + 2 : Nat) : Int)).Nodup := by
          refine List.Pairwise.map _ (fun a b hab => ?_) List.nodup_range
          intro q; omega
        k_steps
        rename Fr _ _ _ _ => F1
        rename News _ _ _ _ => N1
        refine told_spec ⟨X, T⟩ (fun b o e => F1.keep b o e) (i : Int) t il ((List.range wn).map fun j => ((j + 2 : Nat) : Int)) ivs (Nat.le_trans dpA (by decide)) (Nat.le_trans unA (by decide)) ⟨_, hin, rfl, _, rfl⟩ hin2 (by rw [List.length_map, List.length_range]; exact w2) nd (num_le hi' hp8).1 (num_le hi' hp8).2 ?_
        intro h2 td kvs tk2 st2 sz2 tdn tdd tdt tdl tds
        have F2 := F1.keeps st2
        have N2 := N1.grown st2
        have ns2 := F2.ns
        have ftd := new_off F1 N1 tdn
        obtain ⟨otd, etd, dtd⟩ := Heap.dictOf_iff.mp tdd
        have B2 := Ba.stay st2
        have I2 := inst_stay st2 Ia
        k_steps
        rename Fr _ _ _ _ => F3
        rename News _ _ _ _ => N3
        rename Keep _ _ _ => K3
        exact ⟨(by first | exact trivial | exact rfl), _, _, td, otd, kvs, rfl, fr_eqm F3 (mU_told _), N3, B2.loc ap K3 ns2, inst_keep K3 (rL ri (.head _)) (rL rd (.tail _ (.head _))) rfl I2, K3 _ _ (fun hm => ftd.2 (List.mem_singleton.mp hm ▸ .head _)) etd, dtd, tdt, tds, ftd.1, ftd.2⟩
      case d10aB =>
      rintro sa ⟨hb, tkb, td, otd, kvs, rfl, Fb, Nb, Bb, Ib, etd, dtd, tdt, tds, tdg, tdo⟩
      clear Fa Na Ba Ia
      refine execs_cut (J10b w g L l fd lc il nr gl I ri rd td s c1' c2' c3' c4' o6 o5 oI wn mn pn i tw tm t tc a b1 b2 b3 k9 ns kn) ?d10bA ?d10bB
      case d10bA =>
        k_fold
        obtain ⟨gvs, nG, hg, hgl, _⟩ := Bb.gates
        have nIr : ∀ z ∈ [ri, rd], z ≠ I := fun z hz e => nIx (by
          rcases List.mem_cons.mp hz with rfl | hz
          · exact e ▸ .head _
          · exact e ▸ List.mem_singleton.mp hz ▸ .tail _ (.head _))
        have nIF : I ∉ fd :: lc :: il :: nr :: gl :: a.all := fun hm => nIx (.tail _ (.tail _ hm))
        refine' for_H Fb (I :: [L + 6, L + 5, L + 4, L + 3, L + 2, L + 1]) (td :: ri :: rd :: fd :: lc :: il :: nr :: gl :: a.all) [(gl, listOf gvs.toArray nG)] (P10b w L l fd lc il nr gl I ri rd td c1' c2' c3' c4' o6 o5 oI otd wn mn pn i tw tm t tc a b1 b2 b3 k9 ns kn gvs nG) ?stabI ?hfxI ?hfgI ?hfcI ?hfc2I ?_ ?hsI
        case hsI => intro _; with_unfolding_all rfl
        case stabI =>
          rintro j m c h h2 Z ⟨e1, rfl, B, II, et, eg⟩ K hZ F N hc
          have nZ : ∀ z ∈ td :: ri :: rd :: fd :: lc :: il :: nr :: gl :: a.all, z ∉ Z := fun z hz hm => by
            rcases hZ z hm with q | q
            · rcases List.mem_cons.mp hz with rfl | hz
              · exact tdo q
              · rcases List.mem_cons.mp hz with rfl | hz
                · rcases List.mem_cons.mp q with q | q
                  · exact (newR z (.head _)).2 (q ▸ .head _)
                  · exact (List.mem_cons.mp q).elim (nIr z (.head _)) fun q => (newR z (.head _)).2 (.tail _ q)
                · rcases List.mem_cons.mp hz with rfl | hz
                  · rcases List.mem_cons.mp q with q | q
                    · exact (newR z (.tail _ (.head _))).2 (q ▸ .head _)
                    · exact (List.mem_cons.mp q).elim (nIr z (.tail _ (.head _))) fun q => (newR z (.tail _ (.head _))).2 (.tail _ q)
                  · rcases List.mem_cons.mp q with q | q
                    · exact ap.cells z hz (q ▸ .head _)
                    · exact (List.mem_cons.mp q).elim (fun e => nIF (e ▸ hz)) fun q => ap.cells z hz (.tail _ q)
            · exact q.1 hz
          refine ⟨e1, rfl, B.stab ap F (fun p hp => N p (.tail _ hp)) rfl cdat K (fun z hz => ?_), inst_keep K (nZ _ (.tail _ (.head _))) (nZ _ (.tail _ (.tail _ (.head _)))) rfl II, K _ _ (nZ _ (.head _)) et, K _ _ (nZ _ (.tail _ (.tail _ (.tail _ (.tail _ (.tail _ (.tail _ (.tail _ (.head _))))))))) eg⟩
          rcases hZ z hz with q | q
          · rcases List.mem_cons.mp q with q | q
            · exact .inl (q ▸ .head _)
            · rcases List.mem_cons.mp q with rfl | q
              · exact .inr ⟨nIF, fun o e items k d => by
                  have := (N _ (.head _)).1
                  rw [e] at this; cases this; exact dI _ _ d⟩
              · exact .inl (.tail _ q)
          · exact .inr ⟨fun hm => q.1 (.tail _ (.tail _ (.tail _ hm))), q.2⟩
        case hfxI => rintro j m c h ⟨_, _, B, II, et, eg⟩; exact List.forall_mem_cons.mpr ⟨⟨_, et⟩, List.forall_mem_cons.mpr ⟨⟨_, II.at_⟩, List.forall_mem_cons.mpr ⟨⟨_, II.dict⟩, B.there⟩⟩⟩
        case hfgI =>
          refine List.forall_mem_cons.mpr ⟨⟨tdg, tdo⟩, List.forall_mem_cons.mpr ⟨⟨(newR ri (.head _)).1, fun q => ?_⟩, List.forall_mem_cons.mpr ⟨⟨(newR rd (.tail _ (.head _))).1, fun q => ?_⟩, fun z hz => ⟨(newF z hz).1, fun q => ?_⟩⟩⟩⟩
          · rcases List.mem_cons.mp q with q | q
            · exact (newR _ (.head _)).2 (q ▸ .head _)
            · exact (List.mem_cons.mp q).elim (nIr _ (.head _)) fun q => (newR _ (.head _)).2 (.tail _ q)
          · rcases List.mem_cons.mp q with q | q
            · exact (newR _ (.tail _ (.head _))).2 (q ▸ .head _)
            · exact (List.mem_cons.mp q).elim (nIr _ (.tail _ (.head _))) fun q => (newR _ (.tail _ (.head _))).2 (.tail _ q)
          · rcases List.mem_cons.mp q with q | q
            · exact ap.cells z hz (q ▸ .head _)
            · exact (List.mem_cons.mp q).elim (fun e => nIF (e ▸ hz)) fun q => ap.cells z hz (.tail _ q)
        case hfcI => rintro j m c h ⟨_, _, _, _, _, eg⟩ p hp; rw [List.mem_singleton.mp hp]; exact eg
        case hfc2I => intro p hp; rw [List.mem_singleton.mp hp]; exact .tail _ (.tail _ (.tail _ (.tail _ (.tail _ (.tail _ (.tail _ (.head _)))))))
        k_steps
        rename Fr _ _ _ _ => F1
        rename News _ _ _ _ => N1
        refine ⟨_, _, _, _, _, iter_list rfl ⟨_, hg, rfl, _, rfl⟩, F1, N1, rfl, ⟨⟨_, _, rfl⟩, rfl, Bb, Ib, etd, hg⟩, (fun b hb => ⟨listOf gvs.toArray nG, by rw [List.mem_singleton.mp hb]; exact .head _⟩), ?stepI, ?doneI⟩
        case doneI =>
          rintro h tk m c F N hc ⟨⟨r1, r2, rfl⟩, rfl, B, II, _, _⟩
          try k_unfold
          exact ⟨(by first | exact trivial | exact rfl), h, tk, r1, r2, rfl, F, N, B, II⟩
        case stepI =>
          rintro j v m c h tk J oJ hj hPv ⟨⟨r1, r2, rfl⟩, rfl, B, II, et, eg⟩ _ F N dJ nJx nJc
          have F : Fr g L h (mU (fun z => if z = Str.ofString "reading" then some (.ref ri) else mT (mpN l wn mn tw tm nr il) b1 b2 b3 z) r1 r2 (some (.ref td)) (some (.int (i : Int) t))) := F
          have N : News g L h [(J, oJ), (I, oI), (L + 6, o6), (L + 5, o5), (L + 4, c4'), (L + 3, c3'), (L + 2, c2'), (L + 1, c1')] := N
          clear F1 N1
          obtain ⟨x, row, hpr, hpg⟩ : ∃ x row, IsPair h v x row ∧ PG ns wn x row := by
            obtain ⟨gvs', nG', eg', _, hp⟩ := B.gates
            rw [eg] at eg'
            have e : gvs = gvs' := by
              simp only [Option.some.injEq, Obj.mk.injEq, Data.seq.injEq] at eg'
              simpa using eg'.2.2.1.1
            exact hp v (e ▸ List.mem_of_getElem? (by simpa using hPv))
          obtain ⟨p, tp, ra, rfl, htu, hra⟩ := id hpr
          refine wpAny_mono (Q := fun _ s2 => Stop (∃ h2 tk2, s2 = { s with heap := h2, toks := tk2 } ∧ Fr g L h2 (mU (fun z => if z = Str.ofString "reading" then some (.ref ri) else mT (mpN l wn mn tw tm nr il) b1 b2 b3 z) (some (.ref ra)) (some (.int x tp)) (some (.ref td)) (some (.int (i : Int) t))) ∧ News g L h2 [(J, oJ), (I, oI), (L + 6, o6), (L + 5, o5), (L + 4, c4'), (L + 3, c3'), (L + 2, c2'), (L + 1, c1')] ∧ Keep [L] h h2)) ?asg ?body (fun _ _ e => e)
          case asg =>
            obtain ⟨R, NR, _, _, Rk⟩ := openR F N
            have N0 : Stop (News g L h [(J, oJ), (I, oI), (L + 6, o6), (L + 5, o5), (L + 4, c4'), (L + 3, c3'), (L + 2, c2'), (L + 1, c1')]) := N
            clear N
            k_steps
            rename Fr _ _ _ _ => F1
            rename News _ _ _ _ => N1
            exact ⟨_, _, rfl, fr_eqm (fr_eqm F1 (congrArg (fun m : Str → Option Value => fun z => if z = Str.ofString "row" then some (Value.ref ra) else m z) (mU_gate _))) (mU_row _), fun p hp => N1 p (List.mem_append_left _ hp), keepL_of N0 N1 (Rk _ _ F1 fun p hp => N1 p (List.mem_append_right _ hp))⟩
          case body =>
            rintro _ s2 ⟨h2, tk2, rfl, F2, N2, K2⟩
            have nsh := F.ns
            have B2 := B.loc ap K2 nsh
            have II2 := inst_keep K2 (rL ri (.head _)) (rL rd (.tail _ (.head _))) rfl II
            have ra2 := (keep_list K2 (fun hm => by
              obtain ⟨oL, _, _, eL, dL, _⟩ := nsh
              obtain ⟨o, e, _, k, d⟩ := hra
              rw [List.mem_singleton.mp hm, eL] at e; cases e; rw [dL] at d; cases d) hra : h2.IsList ra _)
            have et2 := K2 _ _ (fun hm => tdo (List.mem_singleton.mp hm ▸ .head _)) et
            have hpn : i < 2 ^ wn := epn ▸ hi'
            clear F N B II
            k_steps
            rename Fr _ _ _ _ => F3
            rename News _ _ _ _ => N3
            refine val_t ⟨X, T⟩ (fun b o e => F3.keep b o e) a ns kn B2.circ B2.good ri rd tc 1 II2 td kvs (Heap.dictOf_iff.mpr ⟨otd, et2, dtd⟩) tds (inpF wn i) (fun q _ => tdt (q : Int)) x tp hpg.1 (Nat.le_trans dpA (by decide)) (Nat.le_trans unA (by decide)) (nl_le nl9 w2 m2) ?_
            intro h4 tk4 st4 sz4
            have F4 := F3.keeps st4
            have N4 := N3.grown st4
            have B4 := B2.stay st4
            have II4 := inst_stay st4 II2
            clear F3 N3
            k_steps
            rename Fr _ _ _ _ => F5
            rename News _ _ _ _ => N5
            refine val_t ⟨X, T⟩ (fun b o e => F5.keep b o e) a ns kn B4.circ B4.good ri rd tc 1 II4 td kvs (Heap.dictOf_iff.mpr ⟨otd, st4 _ _ et2, dtd⟩) tds (inpF wn i) (fun q _ => tdt (q : Int)) (-x) _ hpg.1.neg (Nat.le_trans dpA (by decide)) (Nat.le_trans unA (by decide)) (nl_le nl9 w2 m2) ?_
            intro h6 tk6 st6 sz6
            have F6 := F5.keeps st6
            have N6 := N5.grown st6
            have B6 := B4.stay st6
            have ra6 := stay_list st6 (stay_list st4 ra2)
            rw [lit_neg hpg.1.1]
            clear F5 N5
            k_steps
            rename Fr _ _ _ _ => F7
            rename News _ _ _ _ => N7
            rename _ ∧ Heap.get? _ _ = none => St7
            refine repr2 (N7 _ (.head _)).1 rfl (Nat.le_trans unA (by decide)) ?_
            intro h8 u8 tk8 st8
            have F8 := F7.keeps st8
            have N8 := N7.grown st8
            have B8 := (B6.stay St7.1).stay st8
            have II8 := inst_stay st8 (inst_stay St7.1 (inst_stay st6 II4))
            have et8 := st8 _ _ (St7.1 _ _ (st6 _ _ (st4 _ _ et2)))
            have eg8 := st8 _ _ (St7.1 _ _ (st6 _ _ (st4 _ _ (K2 _ _ (fun hm => (newF gl (.tail _ (.tail _ (.tail _ (.tail _ (.head _)))))).2 (List.mem_singleton.mp hm ▸ .head _)) eg))))
            have ra8 := stay_list st8 (stay_list St7.1 ra6)
            have rl8 : (i : Int) < (row.length : Int) := by rw [hpg.len]; exact Int.ofNat_lt.mpr hpn
            have rz8 : row.length ≤ 16777216 := by rw [hpg.len, ← epn]; exact Nat.le_trans hp8 (by decide)
            have rl0 : 0 ≤ (i : Int) := Int.natCast_nonneg i
            have N8' := news_sub N8 (r := [(J, oJ), (I, oI), (L + 6, o6), (L + 5, o5), (L + 4, c4'), (L + 3, c3'), (L + 2, c2'), (L + 1, c1')]) fun p hp => .tail _ hp
            clear F7 N7 N8
            k_steps
            rename Fr _ _ _ _ => F9
            rename News _ _ _ _ => N9
            rename _ ∧ Heap.get? _ _ = none => St9
            have eR : row.getD ((i : Int)).toNat false = lit (inpF wn i) ns x := by rw [Int.toNat_natCast]; exact hpg.at_ hpn
            rw [eR] at N9
            refine repr2 (N9 _ (.head _)).1 rfl (Nat.le_trans unA (by decide)) ?_
            intro hA uA tkA stA
            have FA := F9.keeps stA
            have NA := news_sub (N9.grown stA) (r := [(J, oJ), (I, oI), (L + 6, o6), (L + 5, o5), (L + 4, c4'), (L + 3, c3'), (L + 2, c2'), (L + 1, c1')]) fun p hp => .tail _ hp
            have BA := (B8.stay St9.1).stay stA
            have IIA := inst_stay stA (inst_stay St9.1 II8)
            have etA := stA _ _ (St9.1 _ _ et8)
            have egA := stA _ _ (St9.1 _ _ eg8)
            clear F9 N9 N8' F8
            generalize PyData.shown _ = Sx
            k_steps
            · rename (Sx != Sx) = true => q
              simp at q
            · exact TurnH.next FA NA (.head _) (fun p hp => .tail _ hp) rfl ⟨⟨_, _, rfl⟩, rfl, BA, IIA, etA, egA⟩
      case d10bB =>
      rintro sb ⟨hc, tkc, r1, r2, rfl, Fc, Nc, Bc, Ic⟩
      exact wpAny_execs_nil (TurnH.next Fc Nc (.head _) (fun p hp => .tail _ hp) rfl ⟨⟨_, _, _, _, rfl⟩, rfl, Bc, Ic⟩)
  case cutB =>
  rintro s11 ⟨h11, tk11, m11, rfl, F11⟩
  refine id ?cutZ
  case cutZ =>
    k_steps
    exact hQ h11 _ (fun b o e => F11.keep b o (K0 b o e))
end Mine
end
section
theorem Mine.topOffNuEnd : True := by
  w_top off
  k_with_none
  trivial
set_option linter.all false
open PySem PySem.W PyProof.Rows PySem.Calls PyProof.V PySem.Spec
set_option maxRecDepth 100000
namespace Mine
theorem post_true (as bs : List WData) : (WShape.has [] (.bool true) .bool && (WTm.eq .res (.lit (.bool true))).holds [] { args := as, res := some (.bool true), after := bs }) = true := by
  have a : WShape.has [] (.bool true) .bool = true := by first | rfl | decide | kernel_rfl | simp [WShape.has, WShape.arms]
  rw [a, Bool.true_and]
  unfold WTm.holds
  simp only [WTm.value]
  first | rfl | decide | simp [PySem.W.same] | skip
set_option maxHeartbeats 2000000 in
theorem law_t : PySem.Challenge.rw_nu0266_01.Holds := by
  refine lw fun said => ?_
  refine PySem.W.holds_open (q := vw) (loose := []) (Xt := Xt) (XP := XL vw []) (Yf := Hook.obs HH) (Ya := Hook.val HH) (YP := Hook.says HH) (N := 1200) left (Hook.of HH) (Hook.keeps HH) (fun s e => xl_of s (Bool.and_eq_true_iff.mp e).1) XL.keeps (by rfl) (by rfl) (by rfl) (fun s e => recFacts_of (Bool.and_eq_true_iff.mp e).2) (by rfl) said (by decide +kernel) ⟨rfl, rfl, rfl, rfl, rfl, by decide +kernel⟩ ?hw ?hc
  case hw => w_witness2
  intro w s₀ s₁ mg mb G Y fa o pm cd doc dV kV ho hd hcd hD hmg hg args vals as hpre hlay hrd hwl hlo
  have KX : (kx.heap_1 w.params).In s₁.heap := Y
  revert KX
  k_fill
  intro KX
  have X := (Ground.X G).1
  have V := (Ground.X G).2
  refine Ground.open G ?_
  intro T B D TE TW
  have T' : Top Mine.vw [] (ExcName.means s₀.heap) mg mb s₁.heap := T
  have C : Ctx w (ExcName.means s₀.heap) mg mb s₁.heap := ⟨KX, T'⟩
  have hfa : fa = 195 := by
    have e : nsIn (Mine.kx.heap_1 w.params) mainGlobals (Str.ofString "law") = some (some (.ref 195)) := by k_is
    have h1 := mg_of KX T'.g e
    have h2 : mg (Str.ofString "law") = some (.ref fa) := hmg
    exact (Value.ref.inj (Option.some.inj (h1.symm.trans h2))).symm
  subst hfa
  wrow_args hpre hlay hrd hwl hlo
  rename Heap.IsList _ _ _ => hL
  rename IntsAre _ _ => hI
  rename ¬ _ < _ => hc
  refine law_call (dp := callerA.depth) (un := callerA.units) (fr := callerA.frames) C (fun _ _ e => e) _ _ _ hL hI (by omega) (by decide) (by decide) fun h' tk st => ?_
  refine ⟨.inl ⟨.bool true, .bool true, [], rfl, fun cls => ?e1, .bool true, ?e2, fun _ => ⟨.nil, fun a ha => nomatch ha⟩⟩, .of_keep ?e3, rfl, .of_eq hg⟩
  case e1 => rfl
  case e2 =>
    exact post_true _ _
  case e3 => exact st
end Mine
end
theorem PySem.Challenge.cw_nu0266_01_holds : PySem.Challenge.rw_nu0266_01.Holds :=
  Mine.law_t
