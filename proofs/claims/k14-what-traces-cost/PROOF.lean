import PyProof.Rows.All
import Wide.All
import OpenK.AllK
import Wide.FinOn
import HandS.SetFor
import HandS.Strs
import HandS.ForMost
import PyProof.AutoSeq1
import HandS.Exc
import HandS.TupAny
import HandS.IsInst
import HandS.More
import HandS.Lambda
import HandS.TupMul
import HandS.Style
import HandS.SortInts
import HandS.RaiseMore
import KE.GoesEnum
import HandS.Zip
import HandS.Iter
import HandS.Conv
import KE.KExcIs
import HandS.ExcOwn
import HandS.ExcField
import HandS.ExcIs
import HandS.HeadHook1
import HandS.Defaults
import HandS.Codes
import PyProof.P3Eq
import HandS.Text
import KE.KStateDown
import HandS.Head0
import HandS.Head1
import HandS.Head2
import HandS.HeadEnd
import HandS.HeadHook2
import HandS.HeadHook3
import HandS.HeadHook4
import HandS.HeadWalk
import PySem.Challenge.RW_overlayhall_k14_what_traces_cost
set_option Elab.async false
set_option linter.all false
set_option maxRecDepth 100000
set_option maxHeartbeats 0
namespace L2
open PySem PySem.Spec PyProof.Rows
section
variable {P : Program} {w : World} {A : Around} {E : Value → Shared → Prop} {s : Shared}
abbrev nset (w : World) : Obj := { cls := .type "set", dict := none, data := .set #[] 0 (.fresh 0 0 (!w.params.followText "set-order")) }
set_option maxHeartbeats 3200000 in
theorem set_of_listI {l : Addr} {items : Array Value} (ns : List Int) {Q : Value → Shared → Prop} (hh : A.handled = none) (hl : s.heap.IsList l items) (hit : IntsAre items.toList ns) (hb : ns.length + 1 < scanBound)
    (h : ∀ (h' : Heap) (tk c : Nat), SetR w h' s.heap.objs.size (fun j => decide (j ∈ ns)) c → c ≤ ns.length → (∀ b o, s.heap.get? b = some o → h'.get? b = some o) → Q (.ref s.heap.objs.size) { s with heap := h', toks := tk }) :
    wpAny (model P w) A (call (.type "set") [.ref l]) Q E s := by
  have hisz : items.size = ns.length := by
    have q := IntsAre.length hit
    rw [Array.length_toList] at q
    exact q
  obtain ⟨c, tl, hmro⟩ := F.called_set.mro
  have hmade := F.called_set.made
  have hsub := F.called_set.sub
  refine wpAny_call (codeAny_of_tree ?_)
  show wpAny _ _ (callAny (.type "set") _) _ _ _
  refine wpAny_pure ⟨Code.quiet_builtin _ (by decide +kernel), codeAny_builtin F.entry_type_call ?_⟩
  rw [Around.under_plain (weight_type_call_type "set" [.ref l] []) rfl]
  have h1 := F.called_set.notType
  have h2 := F.called_set.canCreate
  have hct := F.typeCall_set_1 (.ref l)
  repeat (any_goals (first | assumption | wp_step))

  refine codeAny_mono (code_set_led1 (.ref l) (E := E) (Q₁ := fun obj s₁ => obj = .ref s.heap.objs.size ∧ s₁ = { s with heap := s.heap.push (nset w) }) ⟨rfl, rfl⟩) fun r s₁ hr => ?_
  cases r with
  | error e => exact hr
  | ok fl =>
    cases fl with
    | ret obj =>
      obtain ⟨rfl, rfl⟩ := hr
      have hS : (s.heap.push (nset w)).get? s.heap.objs.size = some (nset w) := Heap.get?_push_size _ rfl
      have hT : Shared.TypeIs { s with heap := s.heap.push (nset w) } (.ref s.heap.objs.size) "set" := ⟨_, hS, rfl⟩
      have hli := F.called_set.init.lookup
      have hbi := F.called_set.init.bind (.ref s.heap.objs.size)
      repeat (any_goals (first | assumption | wp_step))

      refine codeAny_mono (codeAny_call_builtin (R := wants (fun r s₂ => r = .none ∧ ∃ h' tk c, s₂ = { s with heap := h', toks := tk } ∧ SetR w h' s.heap.objs.size (fun j => decide (j ∈ ns)) c ∧ c ≤ ns.length ∧
          (∀ b o, s.heap.get? b = some o → h'.get? b = some o)) E) F.called_set.init.plain F.entry_set_init (check_set_init_1 hT ?_)) fun r₂ s₂ hr₂ => ?_
      · obtain ⟨ol, hol, hcl, nl, hdl⟩ := hl
        obtain ⟨ocls, odict, odata, oslots⟩ := ol
        simp only at hcl hdl
        subst hcl; subst hdl
        have hol' : (s.heap.push (nset w)).get? l = some { cls := .type "list", dict := odict, data := .seq items nl, slots := oslots } := Heap.get?_push_of_some _ hol
        have hsls := F.sub_list_set
        have hslf := F.sub_list_frozenset
        have hne : (Value.type "list" == Value.type "dict") = false := by decide
        have hl1 : (s.heap.push (nset w)).IsList l items := ⟨_, hol', rfl, nl, rfl⟩
        unfold Builtin.«set.__init__» noKeywords Builtin.Frozenset.updateFrom
        generalize hPI : pyIter = PI
        wp_walk
        subst hPI

        refine wpAny_pyIter_list hl1 ?_
        refine wpAny_bind (wpAny_runValue ?_)
        have hlS : l < s.heap.objs.size := Heap.lt_size hol
        have hh3 : A.in1.in1.in1.handled = none := by simp [hh]
        have hz1 : (s.heap.push (nset w)).objs.size = s.heap.objs.size + 1 := Heap.size_push ..
        have hneI : l ≠ (s.heap.push (nset w)).objs.size := by
          rw [Heap.size_push]; exact Nat.ne_of_lt (Nat.lt_succ_of_lt hlS)
        have hSf : s.heap.objs.size ∉ [(s.heap.push (nset w)).objs.size, l] := by
          rw [Heap.size_push]; simp only [List.mem_cons, List.mem_singleton, List.not_mem_nil, or_false, not_or]
          exact ⟨Nat.ne_of_lt (Nat.lt_succ_self _), Nat.ne_of_gt hlS⟩
        have hval : ∀ (i : Nat) (v : Value), items[i]? = some v → ∃ k t, ns[i]? = some k ∧ v = .int k t := fun i v hv => by
          have hi : i < ns.length := by rw [← hisz]; exact (Array.getElem?_eq_some_iff.mp hv).1
          obtain ⟨t, e⟩ := PyProof.Rows.IntsAre.int_at hit i v (by rw [Array.getElem?_toList]; exact hv)
          refine ⟨ns[i], t, List.getElem?_eq_getElem hi, ?_⟩
          rw [e, List.getD_eq_getElem?_getD, List.getElem?_eq_getElem hi] <;> rfl
        refine set_update_ints ((Walks.list hh3 _ l hneI items).toS) s.heap.objs.size
          hSf ns hisz hb hval (items.size - 0) 0 _ (by omega) (Nat.zero_le _)
          ⟨⟨_, Heap.get?_push_size _ rfl, rfl, rfl⟩, (hl1.push _)⟩ ?hS0 ?hR
        case hS0 =>
          have hget : ((s.heap.push (nset w)).push { cls := .type "list_iterator", data := .fields #[.ref l, .int 0 0] }).get? s.heap.objs.size
              = some (nset w) := Heap.get?_push_of_some _ hS
          exact ⟨0, Nat.le_refl 0, setR_new_at hget⟩
        case hR =>
          intro s' c' hm hc' hS'
          obtain ⟨h', g2, d', tk', os'⟩ := s'
          have eg : g2 = s.gens := hm.gens
          have ed : d' = s.drawn := hm.drawn
          have eo : os' = s.os := hm.os
          subst eg; subst ed; subst eo
          show wpAny _ _ _ _ _ _
          refine wpAny_pure ?_
          show wpAny _ _ (ret Value.none) _ _ _
          rw [hisz] at hc'
          refine wpAny_pure ⟨rfl, h', tk', c', rfl, hS', hc', fun b o e => ?_⟩
          have hb0 : b < s.heap.objs.size := Heap.lt_size e
          have hb1 : b ≠ s.heap.objs.size := Nat.ne_of_lt hb0
          have hb2 : b ≠ (s.heap.push (nset w)).objs.size := by
            rw [Heap.size_push]; exact Nat.ne_of_lt (Nat.lt_succ_of_lt hb0)
          exact hm.heap b o (by simp only [List.mem_cons, List.mem_singleton, List.not_mem_nil, or_false, not_or]; exact ⟨hb1, hb2⟩) (Heap.get?_push_of_some _ (Heap.get?_push_of_some _ e))

      · cases r₂ with
        | error e => exact hr₂
        | ok fl₂ =>
          cases fl₂ with
          | ret r =>
            obtain ⟨rfl, h', tk, c', rfl, hS', hc', hk'⟩ := hr₂
            repeat (any_goals (first | assumption | wp_step))
            exact h _ _ _ hS' hc' hk'
          | _ => exact hr₂.elim
    | _ => exact hr.elim
end
end L2
namespace PySem
namespace AutoSeqW
open PySem.Calls
set_option maxRecDepth 8000 in
theorem list_extend_list_tuple_d (l : Addr) (items : Array Value) (n : Nat) (b : Addr) (d : Option Addr) (sl : Array (Option Value)) (items2 : Array Value) (n2 : Nat) (hs0 : ¬(!items.isEmpty && Builtin.List.listTooLong (items.size + items2.size)) = true) (hs1 : items.size ≤ sizeLine) (hs2 : items.size + items2.size ≤ sizeLine + 1) :
    Meets (Builtin.«list.extend» ⟨[.ref l, .ref b], []⟩) (fun _ R s => s.heap.get? l = some { cls := .type "list", dict := none, data := .seq items n, slots := #[] } ∧ s.heap.get? b = some { cls := .type "tuple", dict := d, data := .seq items2 n2, slots := sl } ∧ R (.ok (.ret Value.none)) { s with heap := s.heap.update l (Obj.mapSeq fun x => x ++ items2), toks := s.toks }) :=
  .of_wp fun prog w A R s h => by
    obtain ⟨hp, g, d, tk, os⟩ := s; obtain ⟨hl, hb, h⟩ := h; have f1 := PySem.AutoSeq1.idx_int; have f2 := PySem.AutoSeq1.sub_tuple_tuple; have f3 := PySem.AutoSeq1.sub_list_list; have f4 := PySem.AutoSeq1.sub_tuple_list; have f5 := PySem.AutoSeq1.sub_list_tuple;
    have hz' : (items ++ items2).size ≤ sizeLine + 1 := by rw [Array.size_append]; exact hs2
    wp_walk using (wpAny_updateSeq hl rfl (hz := hs1) (_hz' := hz')), wpAny_loadPart' hl, wpAny_loadPart' hb; exact ⟨_, rfl, h⟩
end AutoSeqW
end PySem
namespace WL
open PySem L2
def rExtendT (K : PySem.W.Frag) : V → List V → Hp → VK → Prop := fun x vs H Q => ∃ l b xs zs, x = .ref l ∧ vs = [.ref b] ∧ H l = some (.lst xs) ∧ SqT K H b zs ∧ xs.length + zs.length ≤ sizeLine ∧ Q .non (upd H l (.lst (xs ++ zs)))
theorem mt_extendT {X : Cx} : MtR X "list.extend" (rExtendT X.K) := by
  intro pins s σ H x vs v us Q I rx rv h
  obtain ⟨l, b, xs, zs, rfl, rfl, hH, hB, hz, q⟩ := h
  cases rx
  obtain ⟨u, rfl, ru⟩ := rv.one
  cases ru
  obtain ⟨z, its, n, r, hl, e⟩ := I.lstM hH
  obtain ⟨its2, r2, ⟨o2, ho2, hc2, n2, hd2⟩, z2⟩ := I.tuple hB
  have hl2 := r2.length
  obtain ⟨oc, od, oda, osl⟩ := o2
  dsimp only at hc2 hd2
  subst hc2 hd2
  have hsz : its.toArray.size + its2.toArray.size ≤ sizeLine := by rw [List.size_toArray, List.size_toArray]; omega
  have hlong : ¬ (!its.toArray.isEmpty && Builtin.List.listTooLong (its.toArray.size + its2.toArray.size)) = true := by
    rw [notLongL hsz, Bool.and_false]
    exact Bool.false_ne_true
  refine PySem.call_meets PySem.F.slot_list_extend ⟨_, e, rfl⟩ PySem.F.entry_list_extend (PySem.F.args_list_extend_2 _ _)
    (AutoSeqW.list_extend_list_tuple_d l its.toArray n b od osl its2.toArray n2 hlong (by rw [List.size_toArray]; omega) (by omega)) ⟨e, ho2, ?_⟩
  refine ⟨.non, _, I.lset (its' := its ++ its2) hH e (by simp) (r.append r2) ?_, rfl, q⟩
  rw [List.length_append]
  omega
end WL
namespace L2
open PySem PySem.Spec PyProof.Rows
def rWCount (K : PySem.W.Frag) : V → List V → Hp → VK → Prop := fun x xs H Q => ∃ (a : Addr) (ys : List V) (y : V), x = V.ref a ∧ xs = [y] ∧ SqL K H a ys ∧ flatV y = true ∧ ys.all flatV = true ∧ Q (.int (ys.countP fun z => eqV z y : Nat)) H
theorem wcount_eqU {y : V} {uy : Value} (ry : RelV y uy) (fy : flatV y = true) : ∀ {ys : List V} {us : List Value}, Vals ys us → ys.all flatV = true → us.countP (eqU y) = ys.countP fun z => eqV z y
  | [], _, .nil, _ => rfl
  | z :: zs, _, .cons r rs, f => by
    rw [List.all_cons, Bool.and_eq_true] at f
    rw [List.countP_cons, List.countP_cons, wcount_eqU ry fy rs f.2, eqU_of r f.1]
theorem mt_wcount {X : Cx} : MtR X "list.count" (rWCount X.K) := by
  intro pins s σ H x xs v us Q I rx rxs h
  obtain ⟨a, ys, y, rfl, rfl, hs, fy, fys, q⟩ := h
  cases rx
  match rxs with
  | .cons ry .nil =>
    rename_i uy
    obtain ⟨its, rv, ⟨⟨cls, dd, data, sl⟩, n, ho, hc, hdn, hd⟩, hlen⟩ := I.list hs
    simp only at hc hd
    subst hc hd
    refine call_meets PySem.F.slot_list_count ⟨_, ho, rfl⟩ PySem.F.entry_list_count (PySem.F.args_list_count_2 _ _)
      (SeqAt.list_countAt a its.toArray n dd sl uy (eqU y)) ⟨ho, fun u' hu' => mem_eqAt ry fy rv fys u' (by simpa using hu'), ?_⟩
    rw [wcount_eqU ry fy (us := its.toArray.toList) (by simpa using rv) fys]
    exact ⟨.int (ys.countP fun z => eqV z y : Nat), H, I.tok _, ⟨_, rfl⟩, q⟩
end L2
namespace WL
open PySem L2

inductive W where
  | non | bl (b : Bool) | int (i : Int) | str (x : Str)
  | ref (a : Addr)
  | tup (ws : List W) | lst (ws : List W) | scr (ws : List W)
  | dk (ks : List Key) (ws : List W)
  | dt (ks : List (List Key)) (ws : List W)
  | obj (c : Nat) (ns : List Str) (ws : List W)

inductive MO where
  | lst (ws : List W)
  | dk (kvs : List (Key × W))
  | dt (kvs : List (List Key × W))
  | lk (kvs : List (Key × W))
  | lkt (kvs : List (List Key × W))
  | ins (c : Nat) (fs : List (Str × W))
abbrev Mh := Addr → Option MO
def mup (M : Mh) (a : Addr) (o : MO) : Mh := fun b => if b = a then some o else M b
theorem mup_same {M : Mh} {a : Addr} {o : MO} : mup M a o a = some o := by unfold mup; rw [if_pos rfl]
theorem mup_ne {M : Mh} {a b : Addr} {o : MO} (h : b ≠ a) : mup M a o b = M b := by unfold mup; rw [if_neg h]
theorem mup_mup {M : Mh} {a : Addr} {o u : MO} : mup (mup M a o) a u = mup M a u := by
  funext b; unfold mup; split <;> rfl
theorem m_ne {M : Mh} {a b : Addr} {o : MO} (h : M a = some o) (h' : M b = none) : a ≠ b := by
  intro e; subst e; rw [h] at h'; cases h'

structure Tb where
  K : PySem.W.Frag
  cls : Nat → Addr
  tabs : List (Addr × Str)
  xd : Option (Addr × List (Str × V))
  xcl : Nat → Addr

def keyW : Key → W
  | .inl i => .int i
  | .inr x => .str x

def ScrAt (T : Tb) (F : Addr → Prop) (H : Hp) (a : Addr) (vs : List V) : Prop :=
  (F a ∧ H a = some (.lst vs)) ∨ (∃ o, H a = some (.frz o (.lst vs))) ∨
    ∃ (o : Obj) (its : Array Value) (n : Nat), T.K.lookup a = some o ∧ o.cls = .type "list" ∧ o.dict = none ∧ o.data = .seq its n ∧ its.size ≤ sizeLine ∧ Vals vs its.toList
theorem ScrAt.sq {T : Tb} {F : Addr → Prop} {H : Hp} {a : Addr} {vs : List V} (h : ScrAt T F H a vs) : SqL T.K H a vs := by
  rcases h with ⟨_, h⟩ | h | h
  · exact .inl (.inl h)
  · exact .inl (.inr h)
  · exact .inr h

mutual
def RW (T : Tb) (F : Addr → Prop) (H : Hp) : W → V → Prop
  | .non, v => v = .non
  | .bl b, v => v = .bl b
  | .int i, v => v = .int i
  | .str x, v => v = .str x
  | .ref a, v => v = .ref a
  | .tup ws, v => ∃ a vs, v = .ref a ∧ SqT T.K H a vs ∧ RWs T F H ws vs
  | .lst ws, v => ∃ a vs, v = .ref a ∧ F a ∧ H a = some (.lst vs) ∧ RWs T F H ws vs
  | .scr ws, v => ∃ a vs, v = .ref a ∧ ScrAt T F H a vs ∧ RWs T F H ws vs
  | .dk ks ws, v => ∃ a, ∃ kvs : List (Key × V), v = .ref a ∧ F a ∧ H a = some (.dK kvs) ∧ ks = kvs.map (·.1) ∧ RWs T F H ws (kvs.map (·.2))
  | .dt ks ws, v => ∃ a, ∃ kvs : List (List Key × V), v = .ref a ∧ F a ∧ H a = some (.dT kvs) ∧ ks = kvs.map (·.1) ∧ RWs T F H ws (kvs.map (·.2))
  | .obj c ns ws, v => ∃ a dx fs, v = .ref a ∧ F a ∧ H a = some (.ins (T.cls c) dx fs) ∧ ns = fs.map (·.1) ∧ RWs T F H ws (fs.map (·.2))
def RWs (T : Tb) (F : Addr → Prop) (H : Hp) : List W → List V → Prop
  | [], vs => vs = []
  | w :: ws, vs => ∃ v r, vs = v :: r ∧ RW T F H w v ∧ RWs T F H ws r
end

def Fzn : HO → Prop
  | .lst _ => True
  | .dK _ => True
  | .dT _ => True
  | .ins _ _ _ => True
  | _ => False

structure Ext0 (F : Addr → Prop) (H : Hp) (F' : Addr → Prop) (H' : Hp) : Prop where
  fz : ∀ a, F a → F' a ∧ H' a = H a
  tp : ∀ a xs, H a = some (.tup xs) → H' a = some (.tup xs)
  fr : ∀ a o u, H a = some (.frz o u) → (∀ k, u ≠ .dK k) → (∀ k, u ≠ .dT k) → H' a = some (.frz o u)
structure Ext (F : Addr → Prop) (H : Hp) (F' : Addr → Prop) (H' : Hp) : Prop where
  fz : ∀ a, F a → F' a ∧ H' a = H a
  tp : ∀ a xs, H a = some (.tup xs) → H' a = some (.tup xs)
  fr : ∀ a o u, H a = some (.frz o u) → H' a = some (.frz o u)
theorem Ext.weak {F F' : Addr → Prop} {H H' : Hp} (e : Ext F H F' H') : Ext0 F H F' H' := ⟨e.fz, e.tp, fun a o u h _ _ => e.fr a o u h⟩
theorem Ext.refl {F : Addr → Prop} {H : Hp} : Ext F H F H := ⟨fun _ h => ⟨h, rfl⟩, fun _ _ h => h, fun _ _ _ h => h⟩
theorem Ext.trans {F F1 F2 : Addr → Prop} {H H1 H2 : Hp} (a : Ext F H F1 H1) (b : Ext F1 H1 F2 H2) : Ext F H F2 H2 :=
  ⟨fun x h => ⟨(b.fz x (a.fz x h).1).1, (b.fz x (a.fz x h).1).2.trans (a.fz x h).2⟩, fun x xs h => b.tp x xs (a.tp x xs h), fun x o u h => b.fr x o u (a.fr x o u h)⟩

section
variable {T : Tb} {F F' : Addr → Prop} {H H' : Hp}
theorem Ext0.sqt (e : Ext0 F H F' H') {a : Addr} {vs : List V} (h : SqT T.K H a vs) : SqT T.K H' a vs := by
  rcases h with (h | ⟨o, h⟩) | h
  · exact .inl (.inl (e.tp _ _ h))
  · exact .inl (.inr ⟨o, e.fr _ _ _ h (fun _ z => nomatch z) fun _ z => nomatch z⟩)
  · exact .inr h
theorem Ext0.scr (e : Ext0 F H F' H') {a : Addr} {vs : List V} (h : ScrAt T F H a vs) : ScrAt T F' H' a vs := by
  rcases h with ⟨h1, h2⟩ | ⟨o, h⟩ | h
  · exact .inl ⟨(e.fz a h1).1, (e.fz a h1).2.trans h2⟩
  · exact .inr (.inl ⟨o, e.fr _ _ _ h (fun _ z => nomatch z) fun _ z => nomatch z⟩)
  · exact .inr (.inr h)
mutual
theorem RW.ext0 (e : Ext0 F H F' H') : ∀ {w : W} {v : V}, RW T F H w v → RW T F' H' w v
  | .non, _, h => by simpa only [RW] using h
  | .bl _, _, h => by simpa only [RW] using h
  | .int _, _, h => by simpa only [RW] using h
  | .str _, _, h => by simpa only [RW] using h
  | .ref _, _, h => by simpa only [RW] using h
  | .tup ws, _, h => by
    simp only [RW] at h ⊢
    obtain ⟨a, vs, rfl, h1, h2⟩ := h
    exact ⟨a, vs, rfl, e.sqt h1, RWs.ext0 e h2⟩
  | .lst ws, _, h => by
    simp only [RW] at h ⊢
    obtain ⟨a, vs, rfl, h1, h2, h3⟩ := h
    exact ⟨a, vs, rfl, (e.fz a h1).1, (e.fz a h1).2.trans h2, RWs.ext0 e h3⟩
  | .scr ws, _, h => by
    simp only [RW] at h ⊢
    obtain ⟨a, vs, rfl, h1, h2⟩ := h
    exact ⟨a, vs, rfl, e.scr h1, RWs.ext0 e h2⟩
  | .dk ks ws, _, h => by
    simp only [RW] at h ⊢
    obtain ⟨a, kvs, rfl, h1, h2, h3, h4⟩ := h
    exact ⟨a, kvs, rfl, (e.fz a h1).1, (e.fz a h1).2.trans h2, h3, RWs.ext0 e h4⟩
  | .dt ks ws, _, h => by
    simp only [RW] at h ⊢
    obtain ⟨a, kvs, rfl, h1, h2, h3, h4⟩ := h
    exact ⟨a, kvs, rfl, (e.fz a h1).1, (e.fz a h1).2.trans h2, h3, RWs.ext0 e h4⟩
  | .obj c ns ws, _, h => by
    simp only [RW] at h ⊢
    obtain ⟨a, dx, fs, rfl, h1, h2, h3, h4⟩ := h
    exact ⟨a, dx, fs, rfl, (e.fz a h1).1, (e.fz a h1).2.trans h2, h3, RWs.ext0 e h4⟩
theorem RWs.ext0 (e : Ext0 F H F' H') : ∀ {ws : List W} {vs : List V}, RWs T F H ws vs → RWs T F' H' ws vs
  | [], _, h => by simpa only [RWs] using h
  | w :: ws, _, h => by
    simp only [RWs] at h ⊢
    obtain ⟨v, r, rfl, h1, h2⟩ := h
    exact ⟨v, r, rfl, RW.ext0 e h1, RWs.ext0 e h2⟩
end
theorem Ext.sqt (e : Ext F H F' H') {a : Addr} {vs : List V} (h : SqT T.K H a vs) : SqT T.K H' a vs := e.weak.sqt h
theorem Ext.scr (e : Ext F H F' H') {a : Addr} {vs : List V} (h : ScrAt T F H a vs) : ScrAt T F' H' a vs := e.weak.scr h
theorem RW.ext (e : Ext F H F' H') {w : W} {v : V} (h : RW T F H w v) : RW T F' H' w v := RW.ext0 e.weak h
theorem RWs.ext (e : Ext F H F' H') {ws : List W} {vs : List V} (h : RWs T F H ws vs) : RWs T F' H' ws vs := RWs.ext0 e.weak h
theorem RWs.nil_ {vs : List V} : RWs T F H [] vs ↔ vs = [] := by simp only [RWs]
theorem RWs.nil : RWs T F H [] [] := RWs.nil_.mpr rfl
theorem RWs.cons_ {w : W} {ws : List W} {vs : List V} : RWs T F H (w :: ws) vs ↔ ∃ v r, vs = v :: r ∧ RW T F H w v ∧ RWs T F H ws r := by simp only [RWs]
theorem RWs.cons {w : W} {ws : List W} {v : V} {vs : List V} (h1 : RW T F H w v) (h2 : RWs T F H ws vs) : RWs T F H (w :: ws) (v :: vs) := RWs.cons_.mpr ⟨v, vs, rfl, h1, h2⟩
theorem RWs.length : ∀ {ws : List W} {vs : List V}, RWs T F H ws vs → ws.length = vs.length
  | [], _, h => by rw [RWs.nil_.mp h]; rfl
  | w :: ws, _, h => by
    obtain ⟨v, r, rfl, _, h2⟩ := RWs.cons_.mp h
    rw [List.length_cons, List.length_cons, RWs.length h2]
theorem RWs.get : ∀ {ws : List W} {vs : List V} {i : Nat} {w : W}, RWs T F H ws vs → ws[i]? = some w → ∃ v, vs[i]? = some v ∧ RW T F H w v
  | [], _, i, w, _, e => by simp at e
  | w :: ws, _, 0, x, h, e => by
    obtain ⟨v, r, rfl, h1, h2⟩ := RWs.cons_.mp h
    simp at e; subst e; exact ⟨v, rfl, h1⟩
  | w :: ws, _, i + 1, x, h, e => by
    obtain ⟨v, r, rfl, h1, h2⟩ := RWs.cons_.mp h
    obtain ⟨y, a, b⟩ := RWs.get (i := i) h2 (by simpa using e)
    exact ⟨y, by simpa using a, b⟩
theorem RWs.getV : ∀ {ws : List W} {vs : List V} {i : Nat} {v : V}, RWs T F H ws vs → vs[i]? = some v → ∃ w, ws[i]? = some w ∧ RW T F H w v := fun {ws vs i v} h e => by
  have hl := h.length
  have hi : i < vs.length := (List.getElem?_eq_some_iff.mp e).1
  have e2 : ws[i]? = some (ws[i]'(by omega)) := List.getElem?_eq_getElem (by omega)
  obtain ⟨v', e3, r⟩ := h.get e2
  rw [e] at e3; cases e3
  exact ⟨_, e2, r⟩
theorem RWs.append : ∀ {ws ws' : List W} {vs vs' : List V}, RWs T F H ws vs → RWs T F H ws' vs' → RWs T F H (ws ++ ws') (vs ++ vs')
  | [], _, _, _, h, h' => by rw [RWs.nil_.mp h]; exact h'
  | w :: ws, _, _, _, h, h' => by
    obtain ⟨v, r, rfl, h1, h2⟩ := RWs.cons_.mp h
    exact .cons h1 (RWs.append h2 h')
theorem RWs.set : ∀ {ws : List W} {vs : List V} (i : Nat) {w : W} {v : V}, RWs T F H ws vs → RW T F H w v → RWs T F H (ws.set i w) (vs.set i v)
  | [], _, _, _, _, h, _ => by rw [RWs.nil_.mp h]; exact .nil
  | w :: ws, _, 0, _, _, h, r => by
    obtain ⟨v, s, rfl, h1, h2⟩ := RWs.cons_.mp h
    exact .cons r h2
  | w :: ws, _, i + 1, _, _, h, r => by
    obtain ⟨v, s, rfl, h1, h2⟩ := RWs.cons_.mp h
    exact .cons h1 (RWs.set i h2 r)
theorem RWs.drop : ∀ {ws : List W} {vs : List V} (n : Nat), RWs T F H ws vs → RWs T F H (ws.drop n) (vs.drop n)
  | _, _, 0, h => h
  | [], _, n + 1, h => by rw [RWs.nil_.mp h]; exact .nil
  | w :: ws, _, n + 1, h => by
    obtain ⟨v, s, rfl, h1, h2⟩ := RWs.cons_.mp h
    exact RWs.drop n h2
theorem RWs.take : ∀ {ws : List W} {vs : List V} (n : Nat), RWs T F H ws vs → RWs T F H (ws.take n) (vs.take n)
  | _, _, 0, h => .nil
  | [], _, n + 1, h => by rw [RWs.nil_.mp h]; exact .nil
  | w :: ws, _, n + 1, h => by
    obtain ⟨v, s, rfl, h1, h2⟩ := RWs.cons_.mp h
    exact .cons h1 (RWs.take n h2)
theorem RWs.rep {ws : List W} {vs : List V} (h : RWs T F H ws vs) : ∀ k : Nat, RWs T F H (List.replicate k ws).flatten (List.replicate k vs).flatten
  | 0 => by exact .nil
  | k + 1 => by
    rw [List.replicate_succ, List.replicate_succ, List.flatten_cons, List.flatten_cons]
    exact h.append (RWs.rep h k)
theorem RWs.reverse : ∀ {ws : List W} {vs : List V}, RWs T F H ws vs → RWs T F H ws.reverse vs.reverse
  | [], _, h => by rw [RWs.nil_.mp h]; exact .nil
  | w :: ws, _, h => by
    obtain ⟨v, s, rfl, h1, h2⟩ := RWs.cons_.mp h
    rw [List.reverse_cons, List.reverse_cons]
    exact (RWs.reverse h2).append (.cons h1 .nil)
theorem RWs.erase : ∀ {ws : List W} {vs : List V} (i : Nat), RWs T F H ws vs → RWs T F H (ws.eraseIdx i) (vs.eraseIdx i)
  | [], _, _, h => by rw [RWs.nil_.mp h]; exact .nil
  | w :: ws, _, 0, h => by
    obtain ⟨v, s, rfl, h1, h2⟩ := RWs.cons_.mp h
    exact h2
  | w :: ws, _, i + 1, h => by
    obtain ⟨v, s, rfl, h1, h2⟩ := RWs.cons_.mp h
    exact .cons h1 (RWs.erase i h2)
theorem RW.int_ {i : Int} {v : V} : RW T F H (.int i) v ↔ v = .int i := by simp only [RW]
theorem RW.bl_ {i : Bool} {v : V} : RW T F H (.bl i) v ↔ v = .bl i := by simp only [RW]
theorem RW.str_ {i : Str} {v : V} : RW T F H (.str i) v ↔ v = .str i := by simp only [RW]
theorem RW.non_ {v : V} : RW T F H .non v ↔ v = .non := by simp only [RW]
theorem RW.ref_ {a : Addr} {v : V} : RW T F H (.ref a) v ↔ v = .ref a := by simp only [RW]
theorem RW.tup_ {ws : List W} {v : V} : RW T F H (.tup ws) v ↔ ∃ a vs, v = .ref a ∧ SqT T.K H a vs ∧ RWs T F H ws vs := by simp only [RW]
theorem RW.lst_ {ws : List W} {v : V} : RW T F H (.lst ws) v ↔ ∃ a vs, v = .ref a ∧ F a ∧ H a = some (.lst vs) ∧ RWs T F H ws vs := by simp only [RW]
theorem RW.scr_ {ws : List W} {v : V} : RW T F H (.scr ws) v ↔ ∃ a vs, v = .ref a ∧ ScrAt T F H a vs ∧ RWs T F H ws vs := by simp only [RW]
theorem RW.dk_ {ks : List Key} {ws : List W} {v : V} : RW T F H (.dk ks ws) v ↔ ∃ a, ∃ kvs : List (Key × V), v = .ref a ∧ F a ∧ H a = some (.dK kvs) ∧ ks = kvs.map (·.1) ∧ RWs T F H ws (kvs.map (·.2)) := by simp only [RW]
theorem RW.dt_ {ks : List (List Key)} {ws : List W} {v : V} : RW T F H (.dt ks ws) v ↔ ∃ a, ∃ kvs : List (List Key × V), v = .ref a ∧ F a ∧ H a = some (.dT kvs) ∧ ks = kvs.map (·.1) ∧ RWs T F H ws (kvs.map (·.2)) := by simp only [RW]
theorem RW.obj_ {c : Nat} {ns : List Str} {ws : List W} {v : V} : RW T F H (.obj c ns ws) v ↔ ∃ a dx fs, v = .ref a ∧ F a ∧ H a = some (.ins (T.cls c) dx fs) ∧ ns = fs.map (·.1) ∧ RWs T F H ws (fs.map (·.2)) := by simp only [RW]
theorem RWs.ints : ∀ {ns : List Int} {vs : List V}, RWs T F H (ns.map W.int) vs → vs = ns.map V.int
  | [], _, h => RWs.nil_.mp h
  | n :: ns, _, h => by
    obtain ⟨v, r, rfl, h1, h2⟩ := RWs.cons_.mp h
    rw [RW.int_.mp h1, RWs.ints h2]; rfl
theorem RWs.ofInts : ∀ (ns : List Int), RWs T F H (ns.map W.int) (ns.map V.int)
  | [] => .nil
  | n :: ns => .cons (RW.int_.mpr rfl) (RWs.ofInts ns)
theorem RWs.strs_ : ∀ {ns : List Str} {vs : List V}, RWs T F H (ns.map W.str) vs → vs = ns.map V.str
  | [], _, h => RWs.nil_.mp h
  | n :: ns, _, h => by
    obtain ⟨v, r, rfl, h1, h2⟩ := RWs.cons_.mp h
    rw [RW.str_.mp h1, RWs.strs_ h2]; rfl
theorem RWs.ofStrs : ∀ (ns : List Str), RWs T F H (ns.map W.str) (ns.map V.str)
  | [] => .nil
  | n :: ns => .cons (RW.str_.mpr rfl) (RWs.ofStrs ns)
theorem RW.key {k : Key} {v : V} : RW T F H (keyW k) v ↔ v = kV k := by
  cases k with
  | inl i => exact RW.int_
  | inr x => exact RW.str_
theorem RWs.keys : ∀ {ks : List Key} {vs : List V}, RWs T F H (ks.map keyW) vs → vs = ks.map kV
  | [], _, h => RWs.nil_.mp h
  | n :: ns, _, h => by
    obtain ⟨v, r, rfl, h1, h2⟩ := RWs.cons_.mp h
    rw [RW.key.mp h1, RWs.keys h2]; rfl
end

def RF (T : Tb) (F : Addr → Prop) (H : Hp) : List (Str × W) → List (Str × V) → Prop
  | [], vs => vs = []
  | (n, w) :: ws, vs => ∃ v r, vs = (n, v) :: r ∧ RW T F H w v ∧ RF T F H ws r
def RK {κ : Type} (T : Tb) (F : Addr → Prop) (H : Hp) : List (κ × W) → List (κ × V) → Prop
  | [], vs => vs = []
  | (n, w) :: ws, vs => ∃ v r, vs = (n, v) :: r ∧ RW T F H w v ∧ RK T F H ws r
def RO (T : Tb) (F : Addr → Prop) (H : Hp) : MO → HO → Prop
  | .lst ws, o => ∃ vs, o = .lst vs ∧ RWs T F H ws vs
  | .dk kvs, o => ∃ us, o = .dK us ∧ RK T F H kvs us
  | .dt kvs, o => ∃ us, o = .dT us ∧ RK T F H kvs us
  | .lk kvs, o => ∃ od us, o = .frz od (.dK us) ∧ RK T F H kvs us
  | .lkt kvs, o => ∃ od us, o = .frz od (.dT us) ∧ RK T F H kvs us
  | .ins c fs, o => ∃ dx us, o = .ins (T.cls c) dx us ∧ RF T F H fs us

structure TbOk (T : Tb) (H : Hp) : Prop where
  tb : LamX.Tabs T.tabs H
  xd : ∀ d us, T.xd = some (d, us) → H d = some (.xd us)
def Wrt : HO → Prop
  | .lst _ => True
  | .dK _ => True
  | .dT _ => True
  | .ins _ _ _ => True
  | .frz _ _ => True
  | _ => False
theorem RO.wrt {T : Tb} {F : Addr → Prop} {H : Hp} {u : MO} {o : HO} (r : RO T F H u o) : Wrt o := by
  cases u with
  | lst ws => obtain ⟨vs, rfl, _⟩ := r; trivial
  | dk ws => obtain ⟨vs, rfl, _⟩ := r; trivial
  | dt ws => obtain ⟨vs, rfl, _⟩ := r; trivial
  | lk ws => obtain ⟨od, vs, rfl, _⟩ := r; trivial
  | lkt ws => obtain ⟨od, vs, rfl, _⟩ := r; trivial
  | ins c fs => obtain ⟨dx, vs, rfl, _⟩ := r; trivial
theorem TbOk.ext {T : Tb} {H H' : Hp} (t : TbOk T H) (e : ∀ b o, H b = some o → ¬ Wrt o → H' b = some o) : TbOk T H' := by
  refine ⟨fun p hp => ?_, fun d us h => e _ _ (t.xd d us h) fun z => z⟩
  obtain ⟨ps, h1, h2, h3⟩ := t.tb p hp
  refine ⟨ps, e _ _ h1 fun z => z, h2, fun pos cv hc => ?_⟩
  obtain ⟨c, e1, e2⟩ := h3 pos cv hc
  exact ⟨c, e1, e _ _ e2 fun z => z⟩
theorem TbOk.new {T : Tb} {H : Hp} {p : Addr} {o : HO} (t : TbOk T H) (h : H p = none) : TbOk T (upd H p o) := t.ext fun b u q _ => by rw [upd_ne (ne_of_none q h)]; exact q
theorem TbOk.put {T : Tb} {H : Hp} {p : Addr} {o u : HO} (t : TbOk T H) (h : H p = some u) (w : Wrt u) : TbOk T (upd H p o) := t.ext fun b v q nw => by
  have : b ≠ p := fun z => by
    subst z
    rw [h] at q
    cases q
    exact nw w
  rw [upd_ne this]; exact q
structure Sim (T : Tb) (F : Addr → Prop) (H : Hp) (M : Mh) : Prop where
  ob : ∀ a o, M a = some o → ¬ F a ∧ ∃ ho, H a = some ho ∧ RO T F H o ho
  fz : ∀ a, F a → ∃ ho, H a = some ho ∧ Fzn ho
  tk : TbOk T H

section
variable {T : Tb} {F F' : Addr → Prop} {H H' : Hp} {M : Mh}
theorem RF.ext0 (e : Ext0 F H F' H') : ∀ {ws : List (Str × W)} {vs : List (Str × V)}, RF T F H ws vs → RF T F' H' ws vs
  | [], _, h => h
  | (n, w) :: ws, _, h => by
    obtain ⟨v, r, rfl, h1, h2⟩ := h
    exact ⟨v, r, rfl, h1.ext0 e, RF.ext0 e h2⟩
theorem RK.ext0 {κ : Type} (e : Ext0 F H F' H') : ∀ {ws : List (κ × W)} {vs : List (κ × V)}, RK T F H ws vs → RK T F' H' ws vs
  | [], _, h => h
  | (n, w) :: ws, _, h => by
    obtain ⟨v, r, rfl, h1, h2⟩ := h
    exact ⟨v, r, rfl, h1.ext0 e, RK.ext0 e h2⟩
theorem RO.ext0 (e : Ext0 F H F' H') : ∀ {o : MO} {u : HO}, RO T F H o u → RO T F' H' o u
  | .lst ws, _, ⟨vs, r, h⟩ => ⟨vs, r, h.ext0 e⟩
  | .dk ws, _, ⟨vs, r, h⟩ => ⟨vs, r, RK.ext0 e h⟩
  | .dt ws, _, ⟨vs, r, h⟩ => ⟨vs, r, RK.ext0 e h⟩
  | .lk ws, _, ⟨od, vs, r, h⟩ => ⟨od, vs, r, RK.ext0 e h⟩
  | .lkt ws, _, ⟨od, vs, r, h⟩ => ⟨od, vs, r, RK.ext0 e h⟩
  | .ins c fs, _, ⟨dx, vs, r, h⟩ => ⟨dx, vs, r, RF.ext0 e h⟩
theorem RF.ext (e : Ext F H F' H') {ws : List (Str × W)} {vs : List (Str × V)} (h : RF T F H ws vs) : RF T F' H' ws vs := RF.ext0 e.weak h
theorem RK.ext {κ : Type} (e : Ext F H F' H') {ws : List (κ × W)} {vs : List (κ × V)} (h : RK T F H ws vs) : RK T F' H' ws vs := RK.ext0 e.weak h
theorem RO.ext (e : Ext F H F' H') {o : MO} {u : HO} (h : RO T F H o u) : RO T F' H' o u := RO.ext0 e.weak h
theorem Sim.fresh (S : Sim T F H M) {p : Addr} (h : H p = none) : M p = none ∧ ¬ F p := by
  refine ⟨?_, fun f => ?_⟩
  · cases e : M p with
    | none => rfl
    | some o =>
      obtain ⟨_, ho, e2, _⟩ := S.ob p o e
      rw [h] at e2; cases e2
  · obtain ⟨ho, e2, _⟩ := S.fz p f
    rw [h] at e2; cases e2
theorem ext_new {p : Addr} {o : HO} (h : H p = none) (hf : ¬ F p) : Ext F H F (upd H p o) :=
  ⟨fun a f => ⟨f, upd_ne (fun e => hf (e ▸ f))⟩, fun a xs e => by rw [upd_ne (ne_of_none e h)]; exact e, fun a x u e => by rw [upd_ne (ne_of_none e h)]; exact e⟩
theorem Sim.newT (S : Sim T F H M) {p : Addr} {vs : List V} (h : H p = none) : Ext F H F (upd H p (.tup vs)) ∧ Sim T F (upd H p (.tup vs)) M := by
  have n := S.fresh h
  have e := ext_new (o := .tup vs) h n.2
  refine ⟨e, ⟨fun a o q => ?_, fun a f => ?_, S.tk.new h⟩⟩
  · obtain ⟨f, ho, q1, q2⟩ := S.ob a o q
    exact ⟨f, ho, by rw [upd_ne (m_ne q n.1)]; exact q1, q2.ext e⟩
  · obtain ⟨ho, q1, q2⟩ := S.fz a f
    exact ⟨ho, by rw [(e.fz a f).2]; exact q1, q2⟩
theorem Sim.newM (S : Sim T F H M) {p : Addr} {o : HO} {u : MO} (h : H p = none) (r : RO T F H u o) : Ext F H F (upd H p o) ∧ Sim T F (upd H p o) (mup M p u) := by
  have n := S.fresh h
  have e := ext_new (o := o) h n.2
  refine ⟨e, ⟨fun a x q => ?_, fun a f => ?_, S.tk.new h⟩⟩
  · by_cases ha : a = p
    · subst ha
      rw [mup_same] at q; cases q
      exact ⟨n.2, o, upd_same, r.ext e⟩
    · rw [mup_ne ha] at q
      obtain ⟨f, ho, q1, q2⟩ := S.ob a x q
      exact ⟨f, ho, by rw [upd_ne ha]; exact q1, q2.ext e⟩
  · obtain ⟨ho, q1, q2⟩ := S.fz a f
    exact ⟨ho, by rw [(e.fz a f).2]; exact q1, q2⟩
theorem Sim.newF (S : Sim T F H M) {p : Addr} {o : HO} (h : H p = none) (k : Fzn o) : Ext F H (fun a => F a ∨ a = p) (upd H p o) ∧ Sim T (fun a => F a ∨ a = p) (upd H p o) M := by
  have n := S.fresh h
  have e0 := ext_new (o := o) h n.2
  have e : Ext F H (fun a => F a ∨ a = p) (upd H p o) := ⟨fun a f => ⟨.inl f, (e0.fz a f).2⟩, e0.tp, e0.fr⟩
  refine ⟨e, ⟨fun a x q => ?_, fun a f => ?_, S.tk.new h⟩⟩
  · have ha := m_ne q n.1
    obtain ⟨f, ho, q1, q2⟩ := S.ob a x q
    exact ⟨fun z => z.elim f ha, ho, by rw [upd_ne ha]; exact q1, q2.ext e⟩
  · rcases f with f | rfl
    · obtain ⟨ho, q1, q2⟩ := S.fz a f
      exact ⟨ho, by rw [(e0.fz a f).2]; exact q1, q2⟩
    · exact ⟨o, upd_same, k⟩
def notLk : MO → Bool
  | .lk _ => false
  | .lkt _ => false
  | _ => true
theorem Sim.put0 (S : Sim T F H M) {a : Addr} {o : HO} {u u0 : MO} (h : M a = some u0) (r : RO T F H u o) : Ext0 F H F (upd H a o) ∧ Sim T F (upd H a o) (mup M a u) := by
  obtain ⟨nf, h0, e0, r0⟩ := S.ob a u0 h
  have ne : ∀ b x, H b = some x → x ≠ h0 → b ≠ a := fun b x q d z => by subst z; rw [e0] at q; exact d (Option.some.inj q).symm
  have nt : ∀ xs, HO.tup xs ≠ h0 := fun xs z => by
    subst z
    cases u0 with
    | lst ws => obtain ⟨vs, q, _⟩ := r0; cases q
    | dk ws => obtain ⟨vs, q, _⟩ := r0; cases q
    | dt ws => obtain ⟨vs, q, _⟩ := r0; cases q
    | lk ws => obtain ⟨od, vs, q, _⟩ := r0; cases q
    | lkt ws => obtain ⟨od, vs, q, _⟩ := r0; cases q
    | ins c fs => obtain ⟨dx, vs, q, _⟩ := r0; cases q
  have nr : ∀ x y, (∀ k, y ≠ HO.dK k) → (∀ k, y ≠ HO.dT k) → HO.frz x y ≠ h0 := fun x y k k2 z => by
    subst z
    cases u0 with
    | lst ws => obtain ⟨vs, q, _⟩ := r0; cases q
    | dk ws => obtain ⟨vs, q, _⟩ := r0; cases q
    | dt ws => obtain ⟨vs, q, _⟩ := r0; cases q
    | lk ws => obtain ⟨od, vs, q, _⟩ := r0; cases q; exact k _ rfl
    | lkt ws => obtain ⟨od, vs, q, _⟩ := r0; cases q; exact k2 _ rfl
    | ins c fs => obtain ⟨dx, vs, q, _⟩ := r0; cases q
  have e : Ext0 F H F (upd H a o) := ⟨fun b f => ⟨f, upd_ne (fun z => nf (z ▸ f))⟩, fun b xs q => by rw [upd_ne (ne b _ q (nt xs))]; exact q, fun b x y q k k2 => by rw [upd_ne (ne b _ q (nr x y k k2))]; exact q⟩
  refine ⟨e, ⟨fun b x q => ?_, fun b f => ?_, S.tk.put e0 r0.wrt⟩⟩
  · by_cases hb : b = a
    · subst hb
      rw [mup_same] at q; cases q
      exact ⟨nf, o, upd_same, r.ext0 e⟩
    · rw [mup_ne hb] at q
      obtain ⟨f, ho, q1, q2⟩ := S.ob b x q
      exact ⟨f, ho, by rw [upd_ne hb]; exact q1, q2.ext0 e⟩
  · obtain ⟨ho, q1, q2⟩ := S.fz b f
    exact ⟨ho, by rw [(e.fz b f).2]; exact q1, q2⟩
theorem Sim.put (S : Sim T F H M) {a : Addr} {o : HO} {u u0 : MO} (h : M a = some u0) (r : RO T F H u o) (hn : notLk u0 = true := by rfl) : Ext F H F (upd H a o) ∧ Sim T F (upd H a o) (mup M a u) := by
  obtain ⟨e, S'⟩ := S.put0 h r
  refine ⟨⟨e.fz, e.tp, fun b x y q => ?_⟩, S'⟩
  obtain ⟨nf, h0, e0, r0⟩ := S.ob a u0 h
  by_cases hb : b = a
  · subst hb
    rw [e0] at q
    cases q
    cases u0 with
    | lst ws => obtain ⟨vs, q, _⟩ := r0; cases q
    | dk ws => obtain ⟨vs, q, _⟩ := r0; cases q
    | dt ws => obtain ⟨vs, q, _⟩ := r0; cases q
    | lk ws => cases hn
    | lkt ws => cases hn
    | ins c fs => obtain ⟨dx, vs, q, _⟩ := r0; cases q
  · rw [upd_ne hb]; exact q
theorem Sim.less (S : Sim T F H M) {M' : Mh} (h : ∀ a o, M' a = some o → M a = some o) : Sim T F H M' := ⟨fun a o q => S.ob a o (h a o q), S.fz, S.tk⟩
end

abbrev Sw := List (Option W)
structure RS (T : Tb) (F : Addr → Prop) (H : Hp) (σw : Sw) (σ : St) : Prop where
  len : σw.length ≤ σ.length
  at_ : ∀ (i : Nat) w, σw[i]? = some (some w) → ∃ v, σ[i]? = some (some v) ∧ RW T F H w v
section
variable {T : Tb} {F F' : Addr → Prop} {H H' : Hp} {M : Mh} {σw : Sw} {σ : St}
theorem RS.ext (e : Ext F H F' H') (r : RS T F H σw σ) : RS T F' H' σw σ := ⟨r.len, fun i w h => by
  obtain ⟨v, a, b⟩ := r.at_ i w h
  exact ⟨v, a, b.ext e⟩⟩
theorem RS.set (r : RS T F H σw σ) (hl : σw.length ≤ σ.length) (i : Nat) {w : W} {v : V} (q : RW T F H w v) : RS T F H (σw.set i (some w)) (σ.set i (some v)) := ⟨by simpa using hl, fun j x h => by
  by_cases hj : i = j
  · subst hj
    by_cases hi : i < σw.length
    · rw [List.getElem?_set_self hi] at h
      cases h
      exact ⟨v, by rw [List.getElem?_set_self (by omega)], q⟩
    · rw [List.getElem?_eq_none (by simpa using hi)] at h; cases h
  · rw [List.getElem?_set_ne hj] at h ⊢
    exact r.at_ j x h⟩
theorem RS.unset (r : RS T F H σw σ) (i : Nat) : RS T F H (σw.set i none) (σ.set i none) := ⟨by simpa using r.len, fun j x h => by
  by_cases hj : i = j
  · subst hj
    by_cases hi : i < σw.length
    · rw [List.getElem?_set_self hi] at h
      cases h
    · rw [List.getElem?_eq_none (by simpa using hi)] at h; cases h
  · rw [List.getElem?_set_ne hj] at h ⊢
    exact r.at_ j x h⟩
def wipeW (σ : Sw) : List Nat → Sw
  | [] => σ
  | v :: vs => (wipeW σ vs).set v none
theorem RS.wipe (r : RS T F H σw σ) : ∀ vs : List Nat, RS T F H (wipeW σw vs) (L2.wipe σ vs)
  | [] => r
  | v :: vs => (RS.wipe r vs).unset v
end

structure Xn where
  cls : Nat
  fs : List (Str × W)
abbrev QW := W → Mh → Prop
abbrev QX := Xn → Mh → Prop
abbrev QS := Sw → Mh → Prop
abbrev DE := Sw → Mh → QW → QX → Prop
abbrev DA := Sw → Mh → (List W → Mh → Prop) → QX → Prop
abbrev DT := Sw → Mh → (Bool → Mh → Prop) → QX → Prop
structure Dw where
  nx : QS
  rt : QW
  bk : QS := fun _ _ => False
  ct : QS := fun _ _ => False
  ex : QX
abbrev DS := Dw → Sw → Mh → Prop
def RX (T : Tb) (F : Addr → Prop) (H : Hp) (x : Xn) (cls : Value) (d : Option Addr) : Prop :=
  cls = .ref (T.xcl x.cls) ∧ ((d = none ∧ x.fs = []) ∨ ∃ a us, d = some a ∧ H a = some (.xd us) ∧ RF T F H x.fs us)
def ExK (T : Tb) (E : XK) (F : Addr → Prop) (H : Hp) (Ew : QX) : Prop :=
  ∀ x M' cls d H' F', Ext F H F' H' → RX T F' H' x cls d → Sim T F' H' M' → Ew x M' → E cls d H'
theorem ExK.ext {T : Tb} {E : XK} {F F' : Addr → Prop} {H H' : Hp} {Ew : QX} (k : ExK T E F H Ew) (e : Ext F H F' H') : ExK T E F' H' Ew :=
  fun x M' cls d H2 F2 e2 r s q => k x M' cls d H2 F2 (e.trans e2) r s q
def cE (T : Tb) (E : XK) (τ : DE) : TE := fun σ H Q => ∃ F σw M Qw Ew, RS T F H σw σ ∧ Sim T F H M ∧ τ σw M Qw Ew ∧
  (∀ w M' v H' F', Ext F H F' H' → RW T F' H' w v → Sim T F' H' M' → Qw w M' → Q v H') ∧ ExK T E F H Ew
def cA (T : Tb) (E : XK) (τ : DA) : TA := fun σ H Q => ∃ F σw M Qw Ew, RS T F H σw σ ∧ Sim T F H M ∧ τ σw M Qw Ew ∧
  (∀ ws M' vs H' F', Ext F H F' H' → RWs T F' H' ws vs → Sim T F' H' M' → Qw ws M' → Q vs H') ∧ ExK T E F H Ew
def cT (T : Tb) (E : XK) (τ : DT) : TT := fun σ H Q => ∃ F σw M Qw Ew, RS T F H σw σ ∧ Sim T F H M ∧ τ σw M Qw Ew ∧
  (∀ b M' H' F', Ext F H F' H' → Sim T F' H' M' → Qw b M' → Q b H') ∧ ExK T E F H Ew
def cS (T : Tb) (E : XK) (τ : DS) : TS := fun D σ H => ∃ F σw M Dv, RS T F H σw σ ∧ σw.length ≤ σ.length ∧ Sim T F H M ∧ τ Dv σw M ∧
  (∀ σw' M' σ' H' F', Ext F H F' H' → RS T F' H' σw' σ' → σw'.length ≤ σ'.length → Sim T F' H' M' → Dv.nx σw' M' → D.nx σ' H') ∧
  (∀ w M' v H' F', Ext F H F' H' → RW T F' H' w v → Sim T F' H' M' → Dv.rt w M' → D.rt v H') ∧
  (∀ σw' M' σ' H' F', Ext F H F' H' → RS T F' H' σw' σ' → σw'.length ≤ σ'.length → Sim T F' H' M' → Dv.bk σw' M' → D.bk σ' H') ∧
  (∀ σw' M' σ' H' F', Ext F H F' H' → RS T F' H' σw' σ' → σw'.length ≤ σ'.length → Sim T F' H' M' → Dv.ct σw' M' → D.ct σ' H') ∧ ExK T E F H Dv.ex
abbrev Wp := List W → Mh → QW → QX → Prop
def cP (T : Tb) (p : Wp) : Sp := fun vs H Q E => ∃ F ws M Qw Ew, RWs T F H ws vs ∧ Sim T F H M ∧ p ws M Qw Ew ∧
  (∀ w M' v H' F', Ext F H F' H' → RW T F' H' w v → Sim T F' H' M' → Qw w M' → Q v H') ∧ ExK T E F H Ew
theorem PE.imp {X : Cx} {e : Expr} {t t' : TE} (h : PE X e t) (k : ∀ σ H Q, t' σ H Q → t σ H Q) : PE X e t' := ⟨fun pins s σ H Q I q => h.run pins s σ H Q I (k _ _ _ q)⟩
theorem PT.imp {X : Cx} {e : Expr} {t t' : TT} (h : PT X e t) (k : ∀ σ H Q, t' σ H Q → t σ H Q) : PT X e t' := ⟨fun pins s σ H Q I q => h.run pins s σ H Q I (k _ _ _ q)⟩
theorem PW.imp {X : Cx} {e : Expr} {t t' : TT} (h : L2.PW X e t) (k : ∀ σ H Q, t' σ H Q → t σ H Q) : L2.PW X e t' := ⟨fun w pins s σ H Q I q => h.run w pins s σ H Q I (k _ _ _ q)⟩
theorem PA.imp {X : Cx} {e : List Expr} {t t' : TA} (h : PA X e t) (k : ∀ σ H Q, t' σ H Q → t σ H Q) : PA X e t' := ⟨fun pos pins s σ H Q I q => h.run pos pins s σ H Q I (k _ _ _ q)⟩
theorem PS.imp {X : Cx} {e : Stmt} {t t' : TS} (h : PS X e t) (k : ∀ D σ H, t' D σ H → t D σ H) : PS X e t' := ⟨fun pins s σ H D I q => h.run pins s σ H D I (k _ _ _ q)⟩
theorem PSs.imp {X : Cx} {e : List Stmt} {t t' : TS} (h : PSs X e t) (k : ∀ D σ H, t' D σ H → t D σ H) : PSs X e t' := ⟨fun pins s σ H D I q => h.run pins s σ H D I (k _ _ _ q)⟩
end WL
namespace WL
open PySem PySem.Spec PyProof.Rows L2
theorem tmul_same (b : Addr) (its : Array Value) (m : Nat) (di : Option Addr) (ss : Array (Option Value)) (tk1 : Tok) :
    Meets (Builtin.«tuple.__mul__» ⟨[.ref b, .int 1 tk1], []⟩) (fun _ K s => s.heap.get? b = some { cls := .type "tuple", dict := di, data := .seq its m, slots := ss } ∧ K (.ok (.ret (.ref b))) s) :=
  .of_wp fun P wo Ar K s hyp => by
    obtain ⟨he, gl, de, to, ou⟩ := s
    obtain ⟨hb, hyp⟩ := hyp
    have g1 := AutoSeq1.idx_int
    have g2 := AutoSeq1.sub_tuple_tuple
    wp_walk using wpAny_loadPart' hb
    exact ⟨_, rfl, hyp⟩
theorem tmul_none (b : Addr) (its : Array Value) (m : Nat) (di : Option Addr) (ss : Array (Option Value)) (tk1 : Tok) (ne : its.isEmpty = false) :
    Meets (Builtin.«tuple.__mul__» ⟨[.ref b, .int 0 tk1], []⟩) (fun _ K s => s.heap.get? b = some { cls := .type "tuple", dict := di, data := .seq its m, slots := ss } ∧
      K (.ok (.ret (.ref s.heap.objs.size))) { s with heap := s.heap.push { cls := Value.type "tuple", data := Data.seq #[] }, toks := s.toks }) :=
  .of_wp fun P wo Ar K s hyp => by
    obtain ⟨he, gl, de, to, ou⟩ := s
    obtain ⟨hb, hyp⟩ := hyp
    have g1 := AutoSeq1.idx_int
    wp_walk using wpAny_loadPart' hb
    exact ⟨_, rfl, hyp⟩
def rRepZ (K : PySem.W.Frag) : R2 := fun x y H Q => ∃ l k xs, x = .ref l ∧ y = .int k ∧ SqT K H l xs ∧ xs ≠ [] ∧ 0 ≤ k ∧ k ≤ 1000 ∧ xs.length ≤ 1000 ∧ (k = 1 → Q (.ref l) H) ∧ (k ≠ 1 → ∀ p, H p = none → Q (.ref p) (upd H p (.tup (List.replicate k.toNat xs).flatten)))
theorem op_repZ {X : Cx} : OpR X (binaryOp .Mult) (rRepZ X.K) := by
  intro pins s σ H x y v u Q I rx ry h
  obtain ⟨l, k, xs, rfl, rfl, hT, hne, h0, hk, hz, q1, q2⟩ := h
  by_cases h2 : 2 ≤ k
  · exact op_repT _ _ _ _ _ _ _ _ _ I rx ry ⟨l, k, xs, rfl, rfl, hT, hne, h2, hk, hz, q2 (by omega)⟩
  · have rx0 := rx
    cases rx
    obtain ⟨tk, rfl⟩ := ry
    obtain ⟨its, rv, ⟨⟨cl, di, da, ss⟩, hob, hcl, m, hda⟩, hsz⟩ := I.tuple hT
    simp only at hcl hda
    subst hcl hda
    have nee : its.toArray.isEmpty = false := by
      have e := rv.length
      cases its with
      | nil => exact absurd (List.eq_nil_of_length_eq_zero e) hne
      | cons _ _ => rfl
    rcases (show k = 0 ∨ k = 1 by omega) with rfl | rfl
    · refine wpAny_binaryOp_repeat_ref (T := "tuple") (U := "int") (by decide) ⟨_, hob, rfl⟩ (fun s' => typeIs_int s' 0 tk) noFill_tuple_mul F.fills_int_mul F.slot_int_rmul repeat_tuple F.slot_int_index.lookup
        (call_meets F.slot_int_rmul (typeIs_int s 0 tk) F.entry_int_rmul (F.args_int_rmul_2 _ _) (int_rmul_tuple 0 tk l its.toArray m di ss)
          ⟨hob, rfl, ⟨_, hob, rfl⟩, call_meets F.slot_tuple_mul ⟨_, hob, rfl⟩ F.entry_tuple_mul (F.args_tuple_mul_2 _ _) (tmul_none l its.toArray m di ss tk nee) ⟨hob, ?_⟩⟩)
      refine ⟨.ref s.heap.objs.size, _, I.laid (t' := s.toks) (o := .tup []) (fun b ob q => Heap.get?_push_of_some _ q) (Nat.le_refl _) ⟨by simp, [], .nil, IsTup.new _ _⟩, rfl, q2 (by decide) _ (I.hok.fresh (Nat.le_refl _))⟩
    · refine wpAny_binaryOp_repeat_ref (T := "tuple") (U := "int") (by decide) ⟨_, hob, rfl⟩ (fun s' => typeIs_int s' 1 tk) noFill_tuple_mul F.fills_int_mul F.slot_int_rmul repeat_tuple F.slot_int_index.lookup
        (call_meets F.slot_int_rmul (typeIs_int s 1 tk) F.entry_int_rmul (F.args_int_rmul_2 _ _) (int_rmul_tuple 1 tk l its.toArray m di ss)
          ⟨hob, rfl, ⟨_, hob, rfl⟩, call_meets F.slot_tuple_mul ⟨_, hob, rfl⟩ F.entry_tuple_mul (F.args_tuple_mul_2 _ _) (tmul_same l its.toArray m di ss tk) ⟨hob, ?_⟩⟩)
      exact ⟨.ref l, H, I.tok _, rx0, q1 rfl⟩
end WL
namespace WL
open PySem L2

def lv (M : Mh) : W → Option (List W)
  | .lst ws => some ws
  | .ref a => match M a with
    | some (.lst ws) => some ws
    | _ => none
  | _ => none
def sv (M : Mh) : W → Option (List W)
  | .lst ws => some ws
  | .scr ws => some ws
  | .tup ws => some ws
  | .ref a => match M a with
    | some (.lst ws) => some ws
    | _ => none
  | _ => none
theorem lv_lst {M : Mh} {ws : List W} : lv M (.lst ws) = some ws := rfl
theorem lv_ref {M : Mh} {a : Addr} {ws : List W} (h : M a = some (.lst ws)) : lv M (.ref a) = some ws := by simp only [lv, h]
theorem sv_lst {M : Mh} {ws : List W} : sv M (.lst ws) = some ws := rfl
theorem sv_tup {M : Mh} {ws : List W} : sv M (.tup ws) = some ws := rfl
theorem sv_scr {M : Mh} {ws : List W} : sv M (.scr ws) = some ws := rfl
theorem sv_ref {M : Mh} {a : Addr} {ws : List W} (h : M a = some (.lst ws)) : sv M (.ref a) = some ws := by simp only [sv, h]
section
variable {T : Tb} {F : Addr → Prop} {H : Hp} {M : Mh} {w : W} {ws : List W} {v : V}
theorem Sim.lst (S : Sim T F H M) {a : Addr} (h : M a = some (.lst ws)) : ¬ F a ∧ ∃ vs, H a = some (.lst vs) ∧ RWs T F H ws vs := by
  obtain ⟨nf, ho, e, vs, rfl, r⟩ := S.ob a _ h
  exact ⟨nf, vs, e, r⟩
theorem lv_ok (S : Sim T F H M) (r : RW T F H w v) (h : lv M w = some ws) : ∃ a vs, v = .ref a ∧ H a = some (.lst vs) ∧ RWs T F H ws vs := by
  cases w with
  | lst us =>
    cases h
    obtain ⟨a, vs, rfl, _, e, q⟩ := RW.lst_.mp r
    exact ⟨a, vs, rfl, e, q⟩
  | ref a =>
    unfold lv at h
    cases e : M a with
    | none => simp only [e] at h; cases h
    | some o => cases o with
      | lst us =>
        simp only [e] at h; cases h
        obtain ⟨_, vs, q1, q2⟩ := S.lst e
        exact ⟨a, vs, RW.ref_.mp r, q1, q2⟩
      | dk _ => simp only [e] at h; cases h
      | dt _ => simp only [e] at h; cases h
      | lk _ => simp only [e] at h; cases h
      | lkt _ => simp only [e] at h; cases h
      | ins _ _ => simp only [e] at h; cases h
  | _ => cases h
theorem sv_ok (S : Sim T F H M) (r : RW T F H w v) (h : sv M w = some ws) : ∃ a vs, v = .ref a ∧ (SqL T.K H a vs ∨ SqT T.K H a vs) ∧ RWs T F H ws vs := by
  cases w with
  | lst us =>
    cases h
    obtain ⟨a, vs, rfl, _, e, q⟩ := RW.lst_.mp r
    exact ⟨a, vs, rfl, .inl (.of e), q⟩
  | scr us =>
    cases h
    obtain ⟨a, vs, rfl, e, q⟩ := RW.scr_.mp r
    exact ⟨a, vs, rfl, .inl e.sq, q⟩
  | tup us =>
    cases h
    obtain ⟨a, vs, rfl, e, q⟩ := RW.tup_.mp r
    exact ⟨a, vs, rfl, .inr e, q⟩
  | ref a =>
    unfold sv at h
    cases e : M a with
    | none => simp only [e] at h; cases h
    | some o => cases o with
      | lst us =>
        simp only [e] at h; cases h
        obtain ⟨_, vs, q1, q2⟩ := S.lst e
        exact ⟨a, vs, RW.ref_.mp r, .inl (.of q1), q2⟩
      | dk _ => simp only [e] at h; cases h
      | dt _ => simp only [e] at h; cases h
      | lk _ => simp only [e] at h; cases h
      | lkt _ => simp only [e] at h; cases h
      | ins _ _ => simp only [e] at h; cases h
  | _ => cases h
end

def KQ (T : Tb) (F : Addr → Prop) (H : Hp) (Qw : QW) (Q : VK) : Prop := ∀ w M' v H' F', Ext F H F' H' → RW T F' H' w v → Sim T F' H' M' → Qw w M' → Q v H'
def Ok1 (T : Tb) (r : V → Hp → VK → Prop) (p : W → Mh → QW → Prop) : Prop :=
  ∀ F H M x v Qw Q, Sim T F H M → RW T F H x v → p x M Qw → KQ T F H Qw Q → r v H Q
def Ok2 (T : Tb) (r : R2) (p : W → W → Mh → QW → Prop) : Prop :=
  ∀ F H M x y v u Qw Q, Sim T F H M → RW T F H x v → RW T F H y u → p x y M Qw → KQ T F H Qw Q → r v u H Q
def OkN (T : Tb) (r : List V → Hp → VK → Prop) (p : List W → Mh → QW → Prop) : Prop :=
  ∀ F H M xs vs Qw Q, Sim T F H M → RWs T F H xs vs → p xs M Qw → KQ T F H Qw Q → r vs H Q
def OkM (T : Tb) (r : V → List V → Hp → VK → Prop) (p : W → List W → Mh → QW → Prop) : Prop :=
  ∀ F H M x xs v vs Qw Q, Sim T F H M → RW T F H x v → RWs T F H xs vs → p x xs M Qw → KQ T F H Qw Q → r v vs H Q
theorem KQ.now {T : Tb} {F : Addr → Prop} {H : Hp} {M : Mh} {Qw : QW} {Q : VK} {w : W} {v : V} (k : KQ T F H Qw Q) (S : Sim T F H M) (r : RW T F H w v) (q : Qw w M) : Q v H := k w M v H F .refl r S q
def newL (own : Bool) (ws : List W) (M : Mh) (Q : QW) : Prop := match own with
  | true => ∀ p, M p = none → Q (.ref p) (mup M p (.lst ws))
  | false => Q (.lst ws) M
theorem KQ.newL {T : Tb} {F : Addr → Prop} {H : Hp} {M : Mh} {Qw : QW} {Q : VK} {own : Bool} {ws : List W} {vs : List V} (k : KQ T F H Qw Q) (S : Sim T F H M) (r : RWs T F H ws vs) (q : newL own ws M Qw) :
    ∀ p, H p = none → Q (.ref p) (upd H p (.lst vs)) := fun p hp => by
  cases own with
  | true =>
    obtain ⟨e, S'⟩ := S.newM (o := .lst vs) (u := .lst ws) hp ⟨vs, rfl, r⟩
    exact k _ _ _ _ _ e (RW.ref_.mpr rfl) S' (q p (S.fresh hp).1)
  | false =>
    obtain ⟨e, S'⟩ := S.newF (o := .lst vs) hp trivial
    exact k _ _ _ _ _ e (RW.lst_.mpr ⟨p, vs, rfl, .inr rfl, upd_same, r.ext e⟩) S' q
theorem KQ.newT {T : Tb} {F : Addr → Prop} {H : Hp} {M : Mh} {Qw : QW} {Q : VK} {ws : List W} {vs : List V} (k : KQ T F H Qw Q) (S : Sim T F H M) (r : RWs T F H ws vs) (q : Qw (.tup ws) M) :
    ∀ p, H p = none → Q (.ref p) (upd H p (.tup vs)) := fun p hp => by
  obtain ⟨e, S'⟩ := S.newT (vs := vs) hp
  exact k _ _ _ _ _ e (RW.tup_.mpr ⟨p, vs, rfl, .of upd_same, r.ext e⟩) S' q

def intsW (f : Int → Int → QW → Mh → Prop) : W → W → Mh → QW → Prop
  | .int i, .int j, M, Q => f i j Q M
  | _, _, _, _ => False
theorem ok_ints {T : Tb} {r : R2} {f : Int → Int → QW → Mh → Prop}
    (h : ∀ F H M i j Qw Q, Sim T F H M → f i j Qw M → KQ T F H Qw Q → r (.int i) (.int j) H Q) : Ok2 T r (intsW f) := by
  intro F H M x y v u Qw Q S rx ry p k
  cases x with
  | int i => cases y with
    | int j =>
      rw [RW.int_.mp rx, RW.int_.mp ry]
      exact h F H M i j Qw Q S p k
    | _ => exact p.elim
  | _ => cases y <;> exact p.elim
def subW : W → W → Mh → QW → Prop := intsW fun i j Q M => Q (.int (i - j)) M
def modW : W → W → Mh → QW → Prop := intsW fun i j Q M => 0 < j ∧ Q (.int (i % j)) M
def fdivW : W → W → Mh → QW → Prop := intsW fun i j Q M => (0 < j ∧ j < 1073741824) ∧ Q (.int (i / j)) M
def powW : W → W → Mh → QW → Prop := intsW fun i j Q M => (0 ≤ j ∧ j ≤ 1000000 ∧ i.natAbs < 2 ^ 64) ∧ Q (.int (i ^ j.toNat)) M
variable {T : Tb}
theorem ok_sub : Ok2 T (rI0 fun i j => .int (i - j)) subW := ok_ints fun F H M i j Qw Q S q k => ⟨i, j, rfl, rfl, k.now S (RW.int_.mpr rfl) q⟩
theorem ok_mod : Ok2 T (rI (fun _ j => 0 < j) fun i j => .int (i % j)) modW := ok_ints fun F H M i j Qw Q S q k => ⟨i, j, rfl, rfl, q.1, k.now S (RW.int_.mpr rfl) q.2⟩
theorem ok_fdiv : Ok2 T (rI CDiv fun i j => .int (i / j)) fdivW := ok_ints fun F H M i j Qw Q S q k => ⟨i, j, rfl, rfl, q.1, k.now S (RW.int_.mpr rfl) q.2⟩
theorem ok_pow : Ok2 T (rI CPow fun i j => .int (i ^ j.toNat)) powW := ok_ints fun F H M i j Qw Q S q k => ⟨i, j, rfl, rfl, q.1, k.now S (RW.int_.mpr rfl) q.2⟩
def addW (own : Bool) : W → W → Mh → QW → Prop
  | .int i, .int j, M, Q => Q (.int (i + j)) M
  | .str a, .str b, M, Q => a.length + b.length ≤ sizeLine ∧ Q (.str (a ++ b)) M
  | .tup a, .tup b, M, Q => a.length + b.length ≤ sizeLine ∧ Q (.tup (a ++ b)) M
  | x, y, M, Q => ∃ a b, lv M x = some a ∧ lv M y = some b ∧ a.length + b.length ≤ sizeLine ∧ newL own (a ++ b) M Q
def rAddV (K : PySem.W.Frag) : R2 := fun x y H Q => rI0 (fun i j => .int (i + j)) x y H Q ∨ (∃ i j, x = .str i ∧ y = .str j ∧ i.length + j.length ≤ sizeLine ∧ Q (.str (i ++ j)) H) ∨ rCatA K x y H Q ∨ rCat x y H Q
theorem op_addV {X : Cx} : OpR X (binaryOp .Add) (rAddV X.K) := op_add.or (op_add_str.or (op_catA.or op_cat))
theorem ok_addL {F : Addr → Prop} {H : Hp} {M : Mh} {x y : W} {v u : V} {Qw : QW} {Q : VK} {own : Bool} (S : Sim T F H M) (rx : RW T F H x v) (ry : RW T F H y u)
    (p : ∃ a b, lv M x = some a ∧ lv M y = some b ∧ a.length + b.length ≤ sizeLine ∧ newL own (a ++ b) M Qw) (k : KQ T F H Qw Q) : rCat v u H Q := by
  obtain ⟨a, b, h1, h2, hz, q⟩ := p
  obtain ⟨l, vs, rfl, e1, r1⟩ := lv_ok S rx h1
  obtain ⟨m, us, rfl, e2, r2⟩ := lv_ok S ry h2
  exact ⟨l, m, vs, us, rfl, rfl, e1, e2, by rw [← r1.length, ← r2.length]; exact hz, k.newL S (r1.append r2) q⟩
theorem ok_add {own : Bool} : Ok2 T (rAddV T.K) (addW own) := by
  intro F H M x y v u Qw Q S rx ry p k
  have L : (∃ a b, lv M x = some a ∧ lv M y = some b ∧ a.length + b.length ≤ sizeLine ∧ newL own (a ++ b) M Qw) → rAddV T.K v u H Q := fun p => .inr (.inr (.inr (ok_addL S rx ry p k)))
  cases x with
  | int i =>
    cases y with
    | int j =>
      rw [RW.int_.mp rx, RW.int_.mp ry]
      exact .inl ⟨i, j, rfl, rfl, k.now S (RW.int_.mpr rfl) p⟩
    | _ => exact L p
  | str i =>
    cases y with
    | str j =>
      rw [RW.str_.mp rx, RW.str_.mp ry]
      exact .inr (.inl ⟨i, j, rfl, rfl, p.1, k.now S (RW.str_.mpr rfl) p.2⟩)
    | _ => exact L p
  | tup i =>
    cases y with
    | tup j =>
      obtain ⟨a, vs, rfl, e1, r1⟩ := RW.tup_.mp rx
      obtain ⟨b, us, rfl, e2, r2⟩ := RW.tup_.mp ry
      refine .inr (.inr (.inl ⟨a, b, vs, us, rfl, rfl, e1, e2, by rw [← r1.length, ← r2.length]; exact p.1, fun z => ?_, fun _ z => ?_, fun _ _ => k.newT S (r1.append r2) p.2⟩))
      · subst z
        have : i = [] := List.length_eq_zero_iff.mp (by rw [r1.length]; rfl)
        subst this
        exact k.now S (RW.tup_.mpr ⟨b, us, rfl, e2, r2⟩) p.2
      · subst z
        have : j = [] := List.length_eq_zero_iff.mp (by rw [r2.length]; rfl)
        subst this
        have q : Qw (.tup (i ++ [])) M := p.2
        rw [List.append_nil] at q
        exact k.now S (RW.tup_.mpr ⟨a, vs, rfl, e1, r1⟩) q
    | _ => exact L p
  | _ => exact L p
def mulW (own : Bool) : W → W → Mh → QW → Prop
  | .int i, .int j, M, Q => CMul i j ∧ Q (.int (i * j)) M
  | .tup ws, .int k, M, Q => ws ≠ [] ∧ 0 ≤ k ∧ k ≤ 1000 ∧ ws.length ≤ 1000 ∧ Q (.tup (List.replicate k.toNat ws).flatten) M
  | x, .int k, M, Q => ∃ a, lv M x = some a ∧ -(2 ^ 63) ≤ k ∧ k < 2 ^ 63 ∧ a.length * k.toNat ≤ sizeLine ∧ newL own (List.replicate k.toNat a).flatten M Q
  | _, _, _, _ => False
def rMulV (K : PySem.W.Frag) : R2 := fun x y H Q => rI CMul (fun i j => .int (i * j)) x y H Q ∨ rRep x y H Q ∨ rRepZ K x y H Q
theorem op_mulV {X : Cx} : OpR X (binaryOp .Mult) (rMulV X.K) := op_mul.or (op_rep.or op_repZ)
theorem ok_mul {own : Bool} : Ok2 T (rMulV T.K) (mulW own) := by
  intro F H M x y v u Qw Q S rx ry p k
  cases y with
  | int j =>
    rw [RW.int_.mp ry]
    have L : (∃ a, lv M x = some a ∧ -(2 ^ 63) ≤ j ∧ j < 2 ^ 63 ∧ a.length * j.toNat ≤ sizeLine ∧ newL own (List.replicate j.toNat a).flatten M Qw) → rMulV T.K v (.int j) H Q := fun ⟨a, h1, h2, h3, h4, q⟩ => by
      obtain ⟨l, vs, rfl, e1, r1⟩ := lv_ok S rx h1
      exact .inr (.inl ⟨l, j, vs, rfl, rfl, e1, h2, h3, by rw [← r1.length]; exact h4, k.newL S (r1.rep _) q⟩)
    cases x with
    | int i =>
      rw [RW.int_.mp rx]
      exact .inl ⟨i, j, rfl, rfl, p.1, k.now S (RW.int_.mpr rfl) p.2⟩
    | tup ws =>
      obtain ⟨hne, h0, h1, hl, q⟩ := p
      obtain ⟨a, vs, rfl, e1, r1⟩ := RW.tup_.mp rx
      refine .inr (.inr ⟨a, j, vs, rfl, rfl, e1, fun z => ?_, h0, h1, by rw [← r1.length]; exact hl, fun z => ?_, fun _ => k.newT S (r1.rep _) q⟩)
      · subst z
        exact hne (List.length_eq_zero_iff.mp (by rw [r1.length]; rfl))
      · subst z
        have e : (List.replicate (1 : Int).toNat ws).flatten = ws := by simp
        rw [e] at q
        exact k.now S (RW.tup_.mpr ⟨a, vs, rfl, e1, r1⟩) q
    | _ => exact L p
  | _ => cases x <;> exact p.elim

mutual
def dat : W → Option PyData
  | .non => some .none
  | .bl b => some (.bool b)
  | .int i => some (.int i)
  | .str x => some (.str x)
  | .tup ws => (dats ws).map .tuple
  | .lst ws => (dats ws).map .list
  | .scr ws => (dats ws).map .list
  | _ => none
def dats : List W → Option (List PyData)
  | [] => some []
  | w :: ws => match dat w, dats ws with
    | some d, some ds => some (d :: ds)
    | _, _ => none
end
def datM (M : Mh) (w : W) : Option PyData := match w with
  | .ref a => match M a with
    | some (.lst ws) => (dats ws).map .list
    | _ => none
  | w => dat w
section
variable {F : Addr → Prop} {H : Hp} {M : Mh}
mutual
theorem dat_ok : ∀ {w : W} {v : V} {d : PyData}, RW T F H w v → dat w = some d → Dp T.K H v d
  | .non, _, _, r, h => by simp only [dat] at h; cases h; rw [RW.non_.mp r]; exact .non
  | .bl b, _, _, r, h => by simp only [dat] at h; cases h; rw [RW.bl_.mp r]; exact .bl b
  | .int i, _, _, r, h => by simp only [dat] at h; cases h; rw [RW.int_.mp r]; exact .int i
  | .str x, _, _, r, h => by simp only [dat] at h; cases h; rw [RW.str_.mp r]; exact .str x
  | .ref _, _, _, _, h => by simp only [dat] at h; cases h
  | .tup ws, _, _, r, h => by
    simp only [dat] at h
    cases e : dats ws with
    | none => rw [e] at h; cases h
    | some ds =>
      rw [e] at h; cases h
      obtain ⟨a, vs, rfl, e1, r1⟩ := RW.tup_.mp r
      exact .tup e1 (dats_ok r1 e)
  | .lst ws, _, _, r, h => by
    simp only [dat] at h
    cases e : dats ws with
    | none => rw [e] at h; cases h
    | some ds =>
      rw [e] at h; cases h
      obtain ⟨a, vs, rfl, _, e1, r1⟩ := RW.lst_.mp r
      exact .lst (.of e1) (dats_ok r1 e)
  | .scr ws, _, _, r, h => by
    simp only [dat] at h
    cases e : dats ws with
    | none => rw [e] at h; cases h
    | some ds =>
      rw [e] at h; cases h
      obtain ⟨a, vs, rfl, e1, r1⟩ := RW.scr_.mp r
      exact .lst e1.sq (dats_ok r1 e)
  | .dk _ _, _, _, _, h => by simp only [dat] at h; cases h
  | .dt _ _, _, _, _, h => by simp only [dat] at h; cases h
  | .obj _ _ _, _, _, _, h => by simp only [dat] at h; cases h
theorem dats_ok : ∀ {ws : List W} {vs : List V} {ds : List PyData}, RWs T F H ws vs → dats ws = some ds → DpAll T.K H vs ds
  | [], _, _, r, h => by simp only [dats] at h; cases h; rw [RWs.nil_.mp r]; exact .nil
  | w :: ws, _, _, r, h => by
    obtain ⟨v, s, rfl, r1, r2⟩ := RWs.cons_.mp r
    simp only [dats] at h
    cases e1 : dat w with
    | none => rw [e1] at h; cases h
    | some d => cases e2 : dats ws with
      | none => rw [e1, e2] at h; cases h
      | some ds =>
        rw [e1, e2] at h; cases h
        exact .cons (dat_ok r1 e1) (dats_ok r2 e2)
end
theorem datM_ok (S : Sim T F H M) {w : W} {v : V} {d : PyData} (r : RW T F H w v) (h : datM M w = some d) : Dp T.K H v d := by
  cases w with
  | ref a =>
    unfold datM at h
    simp only at h
    cases e : M a with
    | none => rw [e] at h; cases h
    | some o => cases o with
      | lst ws =>
        rw [e] at h
        simp only at h
        cases e2 : dats ws with
        | none => rw [e2] at h; cases h
        | some ds =>
          rw [e2] at h; cases h
          obtain ⟨_, vs, q1, q2⟩ := S.lst e
          rw [RW.ref_.mp r]
          exact .lst (.of q1) (dats_ok q2 e2)
      | dk _ => rw [e] at h; cases h
      | dt _ => rw [e] at h; cases h
      | lk _ => rw [e] at h; cases h
      | lkt _ => rw [e] at h; cases h
      | ins _ _ => rw [e] at h; cases h
  | non => exact dat_ok r h
  | bl _ => exact dat_ok r h
  | int _ => exact dat_ok r h
  | str _ => exact dat_ok r h
  | tup _ => exact dat_ok r h
  | lst _ => exact dat_ok r h
  | scr _ => exact dat_ok r h
  | dk _ _ => exact dat_ok r h
  | dt _ _ => exact dat_ok r h
  | obj _ _ _ => exact dat_ok r h
end
def eqW (M : Mh) : W → W → Bool → Prop
  | .int i, .int j, b => b = decide (i = j)
  | .str i, .str j, b => b = decide (i = j)
  | .bl i, .bl j, b => b = decide (i = j)
  | .non, .non, b => b = true
  | .non, .int _, b => b = false
  | .non, .str _, b => b = false
  | .non, .bl _, b => b = false
  | .int _, .non, b => b = false
  | .str _, .non, b => b = false
  | .bl _, .non, b => b = false
  | .int _, .str _, b => b = false
  | .str _, .int _, b => b = false
  | .bl _, .str _, b => b = false
  | .str _, .bl _, b => b = false
  | x, y, b => ∃ d e, datM M x = some d ∧ datM M y = some e ∧ SeqAt.shaped d = true ∧ SeqAt.shaped e = true ∧ b = PyData.eqv d e
def rEqV (K : PySem.W.Frag) : R2 := fun x y H Q => rEq x y H Q ∨ rEqD K x y H Q
def rNeV (K : PySem.W.Frag) : R2 := fun x y H Q => rNe x y H Q ∨ rNeD K x y H Q
theorem op_eqV {X : Cx} (hu : X.A.units + 64 < cLine) : OpR X (compareOp .Eq) (rEqV X.K) := op_eq.or (op_eqD hu)
theorem op_neV {X : Cx} (hu : X.A.units + 64 < cLine) : OpR X (compareOp .NotEq) (rNeV X.K) := op_ne.or (op_neD hu)
theorem vdec_int {i j : Int} : decide (V.int i = V.int j) = decide (i = j) := by
  by_cases h : i = j
  · simp [h]
  · rw [decide_eq_false h, decide_eq_false]; exact fun z => h (V.int.inj z)
theorem vdec_bl {i j : Bool} : decide (V.bl i = V.bl j) = decide (i = j) := by
  by_cases h : i = j
  · simp [h]
  · rw [decide_eq_false h, decide_eq_false]; exact fun z => h (V.bl.inj z)
theorem vdec_str {i j : Str} : decide (V.str i = V.str j) = decide (i = j) := by
  by_cases h : i = j
  · simp [h]
  · rw [decide_eq_false h, decide_eq_false]; exact fun z => h (V.str.inj z)
theorem eqW_ok {F : Addr → Prop} {H : Hp} {M : Mh} {x y : W} {v u : V} {b : Bool} (S : Sim T F H M) (rx : RW T F H x v) (ry : RW T F H y u) (h : eqW M x y b) :
    (scal v u = true ∧ decide (v = u) = b) ∨ ∃ d e, Dp T.K H v d ∧ Dp T.K H u e ∧ SeqAt.shaped d = true ∧ SeqAt.shaped e = true ∧ b = PyData.eqv d e := by
  have L : (∃ d e, datM M x = some d ∧ datM M y = some e ∧ SeqAt.shaped d = true ∧ SeqAt.shaped e = true ∧ b = PyData.eqv d e) → ∃ d e, Dp T.K H v d ∧ Dp T.K H u e ∧ SeqAt.shaped d = true ∧ SeqAt.shaped e = true ∧ b = PyData.eqv d e :=
    fun ⟨d, e, h1, h2, h3, h4, h5⟩ => ⟨d, e, datM_ok S rx h1, datM_ok S ry h2, h3, h4, h5⟩
  cases x <;> cases y <;> first
    | exact .inr (L h)
    | (simp only [RW.int_, RW.str_, RW.bl_, RW.non_] at rx ry
       subst rx ry
       first
         | exact .inl ⟨rfl, vdec_int.trans h.symm⟩
         | exact .inl ⟨rfl, vdec_str.trans h.symm⟩
         | exact .inl ⟨rfl, vdec_bl.trans h.symm⟩
         | exact .inl ⟨rfl, (decide_eq_true rfl).trans h.symm⟩
         | exact .inl ⟨rfl, (decide_eq_false (fun z => nomatch z)).trans h.symm⟩)
def eqV_ : W → W → Mh → QW → Prop := fun x y M Q => ∃ b, eqW M x y b ∧ Q (.bl b) M
def neV_ : W → W → Mh → QW → Prop := fun x y M Q => ∃ b, eqW M x y b ∧ Q (.bl (!b)) M
theorem ok_eq : Ok2 T (rEqV T.K) eqV_ := by
  intro F H M x y v u Qw Q S rx ry ⟨b, p, q⟩ k
  rcases eqW_ok S rx ry p with ⟨h1, h2⟩ | ⟨d, e, h1, h2, h3, h4, h5⟩
  · exact .inl ⟨h1, by rw [h2]; exact k.now S (RW.bl_.mpr rfl) q⟩
  · exact .inr ⟨d, e, h1, h2, h3, h4, by rw [← h5]; exact k.now S (RW.bl_.mpr rfl) q⟩
theorem ok_ne : Ok2 T (rNeV T.K) neV_ := by
  intro F H M x y v u Qw Q S rx ry ⟨b, p, q⟩ k
  rcases eqW_ok S rx ry p with ⟨h1, h2⟩ | ⟨d, e, h1, h2, h3, h4, h5⟩
  · exact .inl ⟨h1, by rw [h2]; exact k.now S (RW.bl_.mpr rfl) q⟩
  · exact .inr ⟨d, e, h1, h2, h3, h4, by rw [← h5]; exact k.now S (RW.bl_.mpr rfl) q⟩
def ltW : W → W → Mh → QW → Prop := intsW fun i j Q M => Q (.bl (decide (i < j))) M
def leW : W → W → Mh → QW → Prop := intsW fun i j Q M => Q (.bl (decide (i ≤ j))) M
def gtW : W → W → Mh → QW → Prop := intsW fun i j Q M => Q (.bl (decide (j < i))) M
def geW : W → W → Mh → QW → Prop := intsW fun i j Q M => Q (.bl (decide (j ≤ i))) M
theorem ok_lt : Ok2 T (rI0 fun i j => .bl (decide (i < j))) ltW := ok_ints fun F H M i j Qw Q S q k => ⟨i, j, rfl, rfl, k.now S (RW.bl_.mpr rfl) q⟩
theorem ok_le : Ok2 T (rI0 fun i j => .bl (decide (i ≤ j))) leW := ok_ints fun F H M i j Qw Q S q k => ⟨i, j, rfl, rfl, k.now S (RW.bl_.mpr rfl) q⟩
theorem ok_gt : Ok2 T (rI0 fun i j => .bl (decide (j < i))) gtW := ok_ints fun F H M i j Qw Q S q k => ⟨i, j, rfl, rfl, k.now S (RW.bl_.mpr rfl) q⟩
theorem ok_ge : Ok2 T (rI0 fun i j => .bl (decide (j ≤ i))) geW := ok_ints fun F H M i j Qw Q S q k => ⟨i, j, rfl, rfl, k.now S (RW.bl_.mpr rfl) q⟩
def isNonW : W → Bool
  | .non => true
  | _ => false
def isW (neg : Bool) : W → W → Mh → QW → Prop
  | x, .non, M, Q => Q (.bl (if neg then !isNonW x else isNonW x)) M
  | .bl a, .bl b, M, Q => Q (.bl (if neg then !decide (a = b) else decide (a = b))) M
  | _, _, _, _ => False
theorem isNon_ok {F : Addr → Prop} {H : Hp} {x : W} {v : V} (rx : RW T F H x v) : decide (v = .non) = isNonW x := by
  cases x with
  | non => rw [RW.non_.mp rx]; rfl
  | bl b => rw [RW.bl_.mp rx]; exact decide_eq_false (fun z => nomatch z)
  | int b => rw [RW.int_.mp rx]; exact decide_eq_false (fun z => nomatch z)
  | str b => rw [RW.str_.mp rx]; exact decide_eq_false (fun z => nomatch z)
  | ref b => rw [RW.ref_.mp rx]; exact decide_eq_false (fun z => nomatch z)
  | tup b => obtain ⟨a, _, rfl, _⟩ := RW.tup_.mp rx; exact decide_eq_false (fun z => nomatch z)
  | lst b => obtain ⟨a, _, rfl, _⟩ := RW.lst_.mp rx; exact decide_eq_false (fun z => nomatch z)
  | scr b => obtain ⟨a, _, rfl, _⟩ := RW.scr_.mp rx; exact decide_eq_false (fun z => nomatch z)
  | dk b c => obtain ⟨a, _, rfl, _⟩ := RW.dk_.mp rx; exact decide_eq_false (fun z => nomatch z)
  | dt b c => obtain ⟨a, _, rfl, _⟩ := RW.dt_.mp rx; exact decide_eq_false (fun z => nomatch z)
  | obj b c d => obtain ⟨a, _, _, rfl, _⟩ := RW.obj_.mp rx; exact decide_eq_false (fun z => nomatch z)
def rIsV (neg : Bool) : R2 := fun x y H Q => (y = .non ∧ Q (.bl (if neg then !decide (x = .non) else decide (x = .non))) H) ∨ ∃ a b : Bool, x = .bl a ∧ y = .bl b ∧ Q (.bl (if neg then !decide (a = b) else decide (a = b))) H
theorem op_isV {X : Cx} : OpR X (compareOp .Is) (rIsV false) := op_isN.or op_isBl
theorem op_notV {X : Cx} : OpR X (compareOp .IsNot) (rIsV true) := op_notN.or op_notBl
theorem ok_is {neg : Bool} : Ok2 T (rIsV neg) (isW neg) := by
  intro F H M x y v u Qw Q S rx ry p k
  cases y with
  | non =>
    rw [RW.non_.mp ry]
    refine .inl ⟨rfl, ?_⟩
    rw [isNon_ok rx]
    cases x <;> exact k.now S (RW.bl_.mpr rfl) p
  | bl b =>
    cases x with
    | bl a =>
      rw [RW.bl_.mp rx, RW.bl_.mp ry]
      exact .inr ⟨a, b, rfl, rfl, k.now S (RW.bl_.mpr rfl) p⟩
    | _ => exact p.elim
  | _ => cases x <;> exact p.elim
def flatW : W → Bool
  | .non => true
  | .bl _ => true
  | .int _ => true
  | .str _ => true
  | _ => false
def eqF : W → W → Bool
  | .non, .non => true
  | .bl a, .bl b => decide (a = b)
  | .bl a, .int b => decide ((if a then 1 else 0) = b)
  | .int a, .bl b => decide (a = if b then 1 else 0)
  | .int a, .int b => decide (a = b)
  | .str a, .str b => decide (a = b)
  | _, _ => false
theorem eqF_ok {F : Addr → Prop} {H : Hp} {x y : W} {v u : V} (rx : RW T F H x v) (ry : RW T F H y u) (fx : flatW x = true) (fy : flatW y = true) : flatV v = true ∧ flatV u = true ∧ eqV v u = eqF x y := by
  cases x <;> first
    | exact absurd fx Bool.false_ne_true
    | (cases y <;> first
        | exact absurd fy Bool.false_ne_true
        | (simp only [RW.int_, RW.str_, RW.bl_, RW.non_] at rx ry
           subst rx ry
           refine ⟨rfl, rfl, ?_⟩
           first
             | rfl
             | (simp only [eqV, eqF, Bool.beq_eq_decide_eq]; done)
             | (simp [eqV, eqF]; done)))
def inF (x : W) (ys : List W) : Bool := ys.any fun y => eqF y x
theorem inF_ok {F : Addr → Prop} {H : Hp} {x : W} {v : V} (rx : RW T F H x v) (fx : flatW x = true) : ∀ {ys : List W} {us : List V}, RWs T F H ys us → ys.all flatW = true → us.all flatV = true ∧ inV v us = inF x ys
  | [], _, r, _ => by rw [RWs.nil_.mp r]; exact ⟨rfl, rfl⟩
  | y :: ys, _, r, h => by
    obtain ⟨u, s, rfl, r1, r2⟩ := RWs.cons_.mp r
    rw [List.all_cons, Bool.and_eq_true] at h
    obtain ⟨h1, h2⟩ := inF_ok rx fx r2 h.2
    obtain ⟨h3, h4, h5⟩ := eqF_ok r1 rx h.1 fx
    refine ⟨by rw [List.all_cons, h3, h1]; rfl, ?_⟩
    unfold inV inF at h2 ⊢
    rw [List.any_cons, List.any_cons, h5, h2]
def inS : W → W → Bool → Prop
  | .str x, .str z, b => ∃ c, x = ⟨#[c]⟩ ∧ b = decide (c ∈ z.cps.toList)
  | _, _, _ => False
def inW (neg : Bool) : W → W → Mh → QW → Prop := fun x y M Q => (∃ ys, sv M y = some ys ∧ flatW x = true ∧ ys.all flatW = true ∧ Q (.bl (if neg then !inF x ys else inF x ys)) M) ∨ ∃ b, inS x y b ∧ Q (.bl (if neg then !b else b)) M
def rInV (K : PySem.W.Frag) (neg : Bool) : R2 := fun x y H Q => rIn K neg x y H Q ∨ ∃ (c : Nat) (z : Str), x = .str ⟨#[c]⟩ ∧ y = .str z ∧ Q (.bl (if neg then !decide (c ∈ z.cps.toList) else decide (c ∈ z.cps.toList))) H
theorem op_inV {X : Cx} : OpR X (compareOp .In) (rInV X.K false) := op_in_seq.or op_in_sign
theorem op_notInV {X : Cx} : OpR X (compareOp .NotIn) (rInV X.K true) := op_notIn_seq.or op_notIn_sign
theorem ok_in {neg : Bool} : Ok2 T (rInV T.K neg) (inW neg) := by
  intro F H M x y v u Qw Q S rx ry p k
  rcases p with ⟨ys, h1, h2, h3, q⟩ | ⟨b, h1, q⟩
  · obtain ⟨a, us, rfl, e, r⟩ := sv_ok S ry h1
    obtain ⟨f1, f2⟩ := inF_ok rx h2 r h3
    obtain ⟨f3, _⟩ := eqF_ok rx rx h2 h2
    exact .inl ⟨a, us, rfl, e, f3, f1, by rw [f2]; exact k.now S (RW.bl_.mpr rfl) q⟩
  · cases x with
    | str x => cases y with
      | str z =>
        obtain ⟨c, rfl, rfl⟩ := h1
        rw [RW.str_.mp rx, RW.str_.mp ry]
        exact .inr ⟨c, z, rfl, rfl, k.now S (RW.bl_.mpr rfl) q⟩
      | _ => exact h1.elim
    | _ => cases y <;> exact h1.elim
def idxW : W → W → Mh → QW → Prop
  | .str z, .int i, M, Q => ∃ c, z.length ≤ sizeLine ∧ atI z.cps.toList i = some c ∧ Q (.str ⟨#[c]⟩) M
  | x, .int i, M, Q => ∃ ws w, sv M x = some ws ∧ atI ws i = some w ∧ Q w M
  | _, _, _, _ => False
theorem atI_ok {F : Addr → Prop} {H : Hp} {ws : List W} {vs : List V} {i : Int} {w : W} (r : RWs T F H ws vs) (h : atI ws i = some w) : ∃ v, atI vs i = some v ∧ RW T F H w v := by
  unfold atI at h ⊢
  rw [← r.length]
  cases e : ixN ws.length i with
  | none => rw [e] at h; cases h
  | some j =>
    rw [e] at h
    exact r.get h
theorem ok_idx : Ok2 T (rIx T.K) idxW := by
  intro F H M x y v u Qw Q S rx ry p k
  have L : ∀ i, y = .int i → (∃ ws w, sv M x = some ws ∧ atI ws i = some w ∧ Qw w M) → rIx T.K v u H Q := fun i ey ⟨ws, w, h1, h2, q⟩ => by
    subst ey
    obtain ⟨a, vs, rfl, e, r⟩ := sv_ok S rx h1
    obtain ⟨v, h3, r3⟩ := atI_ok r h2
    rw [RW.int_.mp ry]
    rcases e with e | e
    · exact .inl ⟨a, vs, i, v, rfl, rfl, e, h3, k.now S r3 q⟩
    · exact .inr (.inl ⟨a, vs, i, v, rfl, rfl, e, h3, k.now S r3 q⟩)
  cases y with
  | int i =>
    cases x with
    | str z =>
      obtain ⟨c, h1, h2, q⟩ := p
      rw [RW.str_.mp rx, RW.int_.mp ry]
      exact .inr (.inr ⟨z, i, c, rfl, rfl, h1, h2, k.now S (RW.str_.mpr rfl) q⟩)
    | _ => exact L i rfl p
  | _ => cases x <;> exact p.elim
def cutW (xs : List W) (lo hi : Option Int) : List W := (xs.drop (HT.sIx xs.length 0 lo)).take (HT.sIx xs.length xs.length hi - HT.sIx xs.length 0 lo)
theorem cutW_ok {F : Addr → Prop} {H : Hp} {ws : List W} {vs : List V} {lo hi : Option Int} (r : RWs T F H ws vs) : RWs T F H (cutW ws lo hi) (cutV vs lo hi) := by
  unfold cutW cutV
  rw [← r.length]
  exact (r.drop _).take _
theorem cutW_whole {ws : List W} {lo hi : Option Int} (h : HT.sIx ws.length 0 lo = 0 ∧ HT.sIx ws.length ws.length hi = ws.length) : cutW ws lo hi = ws := by
  unfold cutW
  rw [h.1, h.2]
  simp
def sliceW (own : Bool) : W → Option Int → Option Int → Mh → QW → Prop
  | .tup ws, lo, hi, M, Q => Q (.tup (cutW ws lo hi)) M
  | .lst ws, lo, hi, M, Q => newL own (cutW ws lo hi) M Q
  | .scr ws, lo, hi, M, Q => newL own (cutW ws lo hi) M Q
  | .ref a, lo, hi, M, Q => ∃ ws, M a = some (.lst ws) ∧ newL own (cutW ws lo hi) M Q
  | _, _, _, _, _ => False
def rSlV (K : PySem.W.Frag) : V → Option Int → Option Int → Hp → VK → Prop := fun x lo hi H Q => rSlA K x lo hi H Q ∨ rSlL K x lo hi H Q
theorem sl_V {X : Cx} : SlR X (rSlV X.K) := sl_tupA.or sl_list
theorem ok_slice {own : Bool} {F : Addr → Prop} {H : Hp} {M : Mh} {x : W} {v : V} {lo hi : Option Int} {Qw : QW} {Q : VK} (S : Sim T F H M) (rx : RW T F H x v) (p : sliceW own x lo hi M Qw) (k : KQ T F H Qw Q) : rSlV T.K v lo hi H Q := by
  cases x with
  | tup ws =>
    obtain ⟨a, vs, rfl, e, r⟩ := RW.tup_.mp rx
    refine .inl ⟨a, vs, rfl, e, fun h => ?_, fun _ => k.newT S (cutW_ok r) p⟩
    rw [← r.length] at h
    have q : Qw (.tup (cutW ws lo hi)) M := p
    rw [cutW_whole h] at q
    exact k.now S (RW.tup_.mpr ⟨a, vs, rfl, e, r⟩) q
  | lst ws =>
    obtain ⟨a, vs, rfl, _, e, r⟩ := RW.lst_.mp rx
    exact .inr ⟨a, vs, rfl, .of e, k.newL S (cutW_ok r) p⟩
  | scr ws =>
    obtain ⟨a, vs, rfl, e, r⟩ := RW.scr_.mp rx
    exact .inr ⟨a, vs, rfl, e.sq, k.newL S (cutW_ok r) p⟩
  | ref a =>
    obtain ⟨ws, h, q⟩ := p
    obtain ⟨_, vs, e, r⟩ := S.lst h
    rw [RW.ref_.mp rx]
    exact .inr ⟨a, vs, rfl, .of e, k.newL S (cutW_ok r) q⟩
  | _ => exact p.elim
end WL
namespace WL
open PySem L2
variable {T : Tb}

def truW (M : Mh) : W → Bool → Prop
  | .bl c, b => b = c
  | .non, b => b = false
  | .int i, b => b = (i != 0)
  | .str y, b => y.length ≤ sizeLine ∧ b = ((y.length : Int) != 0)
  | x, b => ∃ ws, sv M x = some ws ∧ b = !ws.isEmpty
theorem isEmpty_ws {F : Addr → Prop} {H : Hp} {ws : List W} {vs : List V} (r : RWs T F H ws vs) : (!vs.isEmpty) = !ws.isEmpty := by
  have h := r.length
  cases ws <;> cases vs <;> simp_all
theorem tru_w {F : Addr → Prop} {H : Hp} {M : Mh} {x : W} {v : V} {b : Bool} (S : Sim T F H M) (rx : RW T F H x v) (h : truW M x b) : TruV T.K v H b := by
  have L : (∃ ws, sv M x = some ws ∧ b = !ws.isEmpty) → TruV T.K v H b := fun ⟨ws, h1, h2⟩ => by
    obtain ⟨a, vs, rfl, e, r⟩ := sv_ok S rx h1
    rcases e with e | e
    · exact .inl ⟨vs, e, by rw [isEmpty_ws r]; exact h2⟩
    · exact .inr (.inl ⟨vs, e, by rw [isEmpty_ws r]; exact h2⟩)
  cases x <;> first
    | exact L h
    | (simp only [RW.int_, RW.str_, RW.bl_, RW.non_] at rx
       subst rx
       exact h)

inductive BI where
  | len | tup | list | sum | int | str | sorted | max2 | min2 | maxL | minL
  deriving DecidableEq
def BI.name : BI → Str
  | .len => "len" | .tup => "tuple" | .list => "list" | .sum => "sum" | .int => "int" | .str => "str" | .sorted => "sorted" | .max2 => "max" | .min2 => "min" | .maxL => "max" | .minL => "min"
def BI.val : BI → Value
  | .len => .builtin "len" | .tup => .type "tuple" | .list => .type "list" | .sum => .builtin "sum" | .int => .type "int" | .str => .type "str" | .sorted => .builtin "sorted"
  | .max2 => .builtin "max" | .min2 => .builtin "min" | .maxL => .builtin "max" | .minL => .builtin "min"
def BI.r (K : PySem.W.Frag) : BI → List V → Hp → VK → Prop
  | .len => fun xs H Q => ∃ x n, xs = [x] ∧ LenV K x H n ∧ Q (.int n) H
  | .tup => fun xs H Q => ∃ p ys, xs = [.ref p] ∧ ((SqL K H p ys ∧ ∀ l, H l = none → Q (.ref l) (upd H l (.tup ys))) ∨ (SqT K H p ys ∧ Q (.ref p) H))
  | .list => fun xs H Q => ∃ p ys, xs = [.ref p] ∧ (SqL K H p ys ∨ SqT K H p ys) ∧ ∀ l, H l = none → Q (.ref l) (upd H l (.lst ys))
  | .sum => rSum K
  | .int => fun xs H Q => ((∃ i, xs = [.int i] ∧ Q (.int i) H) ∨ ∃ k, xs = [.bl k] ∧ Q (.int (if k then 1 else 0)) H) ∨ (∃ a n, xs = [.str a] ∧ PySem.intText? a = some n ∧ a.length ≤ 640 ∧ Q (.int n) H)
  | .str => fun xs H Q => (∃ i, xs = [.int i] ∧ i.natAbs.log2 < 1920 ∧ Q (.str (toString i)) H) ∨ ∃ a, xs = [.str a] ∧ Q (.str a) H
  | .sorted => rSortedI K
  | .max2 => fun xs H Q => ∃ i j, xs = [.int i, .int j] ∧ Q (.int (if j > i then j else i)) H
  | .min2 => fun xs H Q => ∃ i j, xs = [.int i, .int j] ∧ Q (.int (if j < i then j else i)) H
  | .maxL => rMax K
  | .minL => rMin K
theorem BI.ok {X : Cx} (hc : X.calm = true) : ∀ b : BI, CallR X b.val (b.r X.K)
  | .len => call_len
  | .tup => call_tuple_of
  | .list => call_list_of
  | .sum => cr_sum hc
  | .int => call_int1.or call_int_str
  | .str => call_str_int.or SkE.call_str_str
  | .sorted => cr_sortedI
  | .max2 => call_max2 hc
  | .min2 => call_min2 hc
  | .maxL => cr_max hc
  | .minL => cr_min hc
theorem BI.boot : ∀ b : BI, bootBuiltins b.name = some b.val
  | .len => by decide +kernel
  | .tup => by decide +kernel
  | .list => by decide +kernel
  | .sum => by decide +kernel
  | .int => by decide +kernel
  | .str => by decide +kernel
  | .sorted => by decide +kernel
  | .max2 => by decide +kernel
  | .min2 => by decide +kernel
  | .maxL => by decide +kernel
  | .minL => by decide +kernel
theorem BI.names (b : BI) : b.name ≠ "__name__" ∧ (b.name == ("__debug__" : Str)) = false := by cases b <;> exact ⟨by decide, by decide⟩
def lenW : W → Mh → QW → Prop
  | .str z, M, Q => z.length ≤ sizeLine ∧ Q (.int z.length) M
  | x, M, Q => ∃ ws, sv M x = some ws ∧ Q (.int ws.length) M
def tupW : W → Mh → QW → Prop := fun x M Q => ∃ ws, sv M x = some ws ∧ Q (.tup ws) M
def listW (own : Bool) : W → Mh → QW → Prop := fun x M Q => ∃ ws, sv M x = some ws ∧ newL own ws M Q
def intsOf (M : Mh) (x : W) (ns : List Int) : Prop := match x with
  | .lst ws => ws = ns.map W.int
  | .scr ws => ws = ns.map W.int
  | .ref a => M a = some (.lst (ns.map W.int))
  | _ => False
theorem intsOf_ok {F : Addr → Prop} {H : Hp} {M : Mh} {x : W} {v : V} {ns : List Int} (S : Sim T F H M) (rx : RW T F H x v) (h : intsOf M x ns) : ∃ a, v = .ref a ∧ SqL T.K H a (ns.map V.int) := by
  cases x with
  | lst ws =>
    obtain rfl : ws = ns.map W.int := h
    obtain ⟨a, vs, rfl, _, e, r⟩ := RW.lst_.mp rx
    rw [r.ints] at e
    exact ⟨a, rfl, .of e⟩
  | scr ws =>
    obtain rfl : ws = ns.map W.int := h
    obtain ⟨a, vs, rfl, e, r⟩ := RW.scr_.mp rx
    rw [r.ints] at e
    exact ⟨a, rfl, e.sq⟩
  | ref a =>
    obtain ⟨_, vs, e, r⟩ := S.lst (ws := ns.map W.int) h
    rw [r.ints] at e
    exact ⟨a, RW.ref_.mp rx, .of e⟩
  | _ => exact h.elim
def sumW : W → Mh → QW → Prop := fun x M Q => ∃ ns, intsOf M x ns ∧ Q (.int ns.sum) M
def intW : W → Mh → QW → Prop
  | .int i, M, Q => Q (.int i) M
  | .bl b, M, Q => Q (.int (if b then 1 else 0)) M
  | .str a, M, Q => ∃ n, PySem.intText? a = some n ∧ a.length ≤ 640 ∧ Q (.int n) M
  | _, _, _ => False
def strW : W → Mh → QW → Prop
  | .int i, M, Q => i.natAbs.log2 < 1920 ∧ Q (.str (toString i)) M
  | .str a, M, Q => Q (.str a) M
  | _, _, _ => False
def sortedW (own : Bool) : W → Mh → QW → Prop := fun x M Q => ∃ ns, intsOf M x ns ∧ ∀ ns' : List Int, ns'.Perm ns → ns'.Pairwise (· ≤ ·) → newL own (ns'.map W.int) M Q
def maxW : W → Mh → QW → Prop := fun x M Q => ∃ ns, intsOf M x ns ∧ 0 < ns.length ∧ ∀ m, m ∈ ns → (∀ y, y ∈ ns → y ≤ m) → Q (.int m) M
def minW : W → Mh → QW → Prop := fun x M Q => ∃ ns, intsOf M x ns ∧ 0 < ns.length ∧ ∀ m, m ∈ ns → (∀ y, y ∈ ns → m ≤ y) → Q (.int m) M
def oneW (p : W → Mh → QW → Prop) : List W → Mh → QW → Prop
  | [x], M, Q => p x M Q
  | _, _, _ => False
def twoW (p : W → W → Mh → QW → Prop) : List W → Mh → QW → Prop
  | [x, y], M, Q => p x y M Q
  | _, _, _ => False
def BI.w (own : Bool) : BI → List W → Mh → QW → Prop
  | .len => oneW lenW
  | .tup => oneW tupW
  | .list => oneW (listW own)
  | .sum => oneW sumW
  | .int => oneW intW
  | .str => oneW strW
  | .sorted => oneW (sortedW own)
  | .max2 => twoW (intsW fun i j Q M => Q (.int (if j > i then j else i)) M)
  | .min2 => twoW (intsW fun i j Q M => Q (.int (if j < i then j else i)) M)
  | .maxL => oneW maxW
  | .minL => oneW minW
theorem ok_one {r : List V → Hp → VK → Prop} {p : W → Mh → QW → Prop} (h : Ok1 T (fun v H Q => r [v] H Q) p) : OkN T r (oneW p) := by
  intro F H M xs vs Qw Q S rx q k
  match xs with
  | [x] =>
    obtain ⟨v, s, rfl, r1, r2⟩ := RWs.cons_.mp rx
    rw [RWs.nil_.mp r2]
    exact h F H M x v Qw Q S r1 q k
  | [] => exact q.elim
  | _ :: _ :: _ => exact q.elim
theorem ok_two {r : List V → Hp → VK → Prop} {p : W → W → Mh → QW → Prop} (h : Ok2 T (fun v u H Q => r [v, u] H Q) p) : OkN T r (twoW p) := by
  intro F H M xs vs Qw Q S rx q k
  match xs with
  | [x, y] =>
    obtain ⟨v, s, rfl, r1, r2⟩ := RWs.cons_.mp rx
    obtain ⟨u, s, rfl, r2, r3⟩ := RWs.cons_.mp r2
    rw [RWs.nil_.mp r3]
    exact h F H M x y v u Qw Q S r1 r2 q k
  | [] => exact q.elim
  | [_] => exact q.elim
  | _ :: _ :: _ :: _ => exact q.elim
theorem BI.okN {own : Bool} : ∀ b : BI, OkN T (b.r T.K) (b.w own)
  | .len => ok_one fun F H M x v Qw Q S rx p k => by
    have L : (∃ ws, sv M x = some ws ∧ Qw (.int ws.length) M) → BI.r T.K .len [v] H Q := fun ⟨ws, h1, q⟩ => by
      obtain ⟨a, vs, rfl, e, r⟩ := sv_ok S rx h1
      refine ⟨.ref a, vs.length, rfl, ?_, by rw [← r.length]; exact k.now S (RW.int_.mpr rfl) q⟩
      rcases e with e | e
      · exact .inl ⟨vs, e, rfl⟩
      · exact .inr ⟨vs, e, rfl⟩
    cases x with
    | str z =>
      rw [RW.str_.mp rx]
      exact ⟨.str z, z.length, rfl, ⟨p.1, rfl⟩, k.now S (RW.int_.mpr rfl) p.2⟩
    | _ => exact L p
  | .tup => ok_one fun F H M x v Qw Q S rx ⟨ws, h1, q⟩ k => by
    obtain ⟨a, vs, rfl, e, r⟩ := sv_ok S rx h1
    rcases e with e | e
    · exact ⟨a, vs, rfl, .inl ⟨e, k.newT S r q⟩⟩
    · exact ⟨a, vs, rfl, .inr ⟨e, k.now S (RW.tup_.mpr ⟨a, vs, rfl, e, r⟩) q⟩⟩
  | .list => ok_one fun F H M x v Qw Q S rx ⟨ws, h1, q⟩ k => by
    obtain ⟨a, vs, rfl, e, r⟩ := sv_ok S rx h1
    exact ⟨a, vs, rfl, e, k.newL S r q⟩
  | .sum => ok_one fun F H M x v Qw Q S rx ⟨ns, h1, q⟩ k => by
    obtain ⟨a, rfl, e⟩ := intsOf_ok S rx h1
    exact ⟨a, ns, rfl, e, k.now S (RW.int_.mpr rfl) q⟩
  | .int => ok_one fun F H M x v Qw Q S rx p k => by
    cases x with
    | int i => rw [RW.int_.mp rx]; exact .inl (.inl ⟨i, rfl, k.now S (RW.int_.mpr rfl) p⟩)
    | bl i => rw [RW.bl_.mp rx]; exact .inl (.inr ⟨i, rfl, k.now S (RW.int_.mpr rfl) p⟩)
    | str i =>
      obtain ⟨n, h1, h2, q⟩ := p
      rw [RW.str_.mp rx]; exact .inr ⟨i, n, rfl, h1, h2, k.now S (RW.int_.mpr rfl) q⟩
    | _ => exact p.elim
  | .str => ok_one fun F H M x v Qw Q S rx p k => by
    cases x with
    | int i => rw [RW.int_.mp rx]; exact .inl ⟨i, rfl, p.1, k.now S (RW.str_.mpr rfl) p.2⟩
    | str i => rw [RW.str_.mp rx]; exact .inr ⟨i, rfl, k.now S (RW.str_.mpr rfl) p⟩
    | _ => exact p.elim
  | .sorted => ok_one fun F H M x v Qw Q S rx ⟨ns, h1, q⟩ k => by
    obtain ⟨a, rfl, e⟩ := intsOf_ok S rx h1
    exact ⟨a, ns, rfl, e, fun ns' p h2 h3 hp => k.newL S (RWs.ofInts ns') (q ns' h2 h3) p hp⟩
  | .max2 => ok_two (ok_ints fun F H M i j Qw Q S q k => ⟨i, j, rfl, k.now S (RW.int_.mpr rfl) q⟩)
  | .min2 => ok_two (ok_ints fun F H M i j Qw Q S q k => ⟨i, j, rfl, k.now S (RW.int_.mpr rfl) q⟩)
  | .maxL => ok_one fun F H M x v Qw Q S rx ⟨ns, h1, h2, q⟩ k => by
    obtain ⟨a, rfl, e⟩ := intsOf_ok S rx h1
    exact ⟨a, ns, rfl, e, h2, fun m hm hy => k.now S (RW.int_.mpr rfl) (q m hm hy)⟩
  | .minL => ok_one fun F H M x v Qw Q S rx ⟨ns, h1, h2, q⟩ k => by
    obtain ⟨a, rfl, e⟩ := intsOf_ok S rx h1
    exact ⟨a, ns, rfl, e, h2, fun m hm hy => k.now S (RW.int_.mpr rfl) (q m hm hy)⟩

inductive BM where
  | append | extend | pop | popAt | clear | join | split | count | index
  deriving DecidableEq
def BM.name : BM → Str
  | .append => "append" | .extend => "extend" | .pop => "pop" | .popAt => "pop" | .clear => "clear" | .join => "join" | .split => "split" | .count => "count" | .index => "index"
def BM.cls : BM → String
  | .append => "list" | .extend => "list" | .pop => "list" | .popAt => "list" | .clear => "list" | .join => "str" | .split => "str" | .count => "list" | .index => "list"
def BM.id : BM → String
  | .append => "list.append" | .extend => "list.extend" | .pop => "list.pop" | .popAt => "list.pop" | .clear => "list.clear" | .join => "str.join" | .split => "str.split" | .count => "list.count" | .index => "list.index"
def BM.r (K : PySem.W.Frag) : BM → V → List V → Hp → VK → Prop
  | .append => rAppend
  | .extend => fun x xs H Q => rExtend x xs H Q ∨ rExtendT K x xs H Q
  | .pop => rPop
  | .popAt => rPopAt
  | .clear => rClear
  | .join => fun x xs H Q => ∃ a p, ∃ ys : List Str, x = .str a ∧ xs = [.ref p] ∧ (SqL K H p (ys.map V.str) ∨ SqT K H p (ys.map V.str)) ∧
    (ys.map (·.length)).sum + ys.length * a.length ≤ 16777216 ∧ Q (.str (Txt.join a ys)) H
  | .split => fun x xs H Q => ∃ a b, x = .str a ∧ xs = [.str b] ∧ (b.length == 0) = false ∧ a.length + 2 ≤ sizeLine ∧ rNewStrs (Txt.split a b) H Q
  | .count => rWCount K
  | .index => rIndex K
theorem BM.ok {X : Cx} : ∀ b : BM, MtR X b.id (b.r X.K)
  | .append => mt_append
  | .extend => fun pins s σ H x xs v us Q I rx rv h => h.elim (fun h => mt_extend pins s σ H x xs v us Q I rx rv h) fun h => mt_extendT pins s σ H x xs v us Q I rx rv h
  | .pop => mt_pop
  | .popAt => mt_popAt
  | .clear => mt_clear
  | .join => mt_join
  | .split => mt_split
  | .count => mt_wcount
  | .index => mt_index
theorem BM.plain : ∀ b : BM, PlainAttrs b.cls
  | .append => PySem.F.plainAttrs_list
  | .extend => PySem.F.plainAttrs_list
  | .pop => PySem.F.plainAttrs_list
  | .popAt => PySem.F.plainAttrs_list
  | .clear => PySem.F.plainAttrs_list
  | .join => PySem.F.plainAttrs_str
  | .split => PySem.F.plainAttrs_str
  | .count => PySem.F.plainAttrs_list
  | .index => PySem.F.plainAttrs_list
theorem BM.slot : ∀ b : BM, Slot b.cls b.name b.id
  | .append => PySem.F.slot_list_append
  | .extend => PySem.F.slot_list_extend
  | .pop => PySem.F.slot_list_pop
  | .popAt => PySem.F.slot_list_pop
  | .clear => PySem.F.slot_list_clear
  | .join => PySem.F.slot_str_join
  | .split => PySem.F.slot_str_split
  | .count => PySem.F.slot_list_count
  | .index => PySem.F.slot_list_index
theorem BM.ty : ∀ b : BM, typeOf (.builtin b.id) = pure (.type "method_descriptor")
  | .append => PySem.F.type_list_append
  | .extend => PySem.F.type_list_extend
  | .pop => PySem.F.type_list_pop
  | .popAt => PySem.F.type_list_pop
  | .clear => PySem.F.type_list_clear
  | .join => PySem.F.type_str_join
  | .split => PySem.F.type_str_split
  | .count => PySem.F.type_list_count
  | .index => PySem.F.type_list_index
def appendW : W → List W → Mh → QW → Prop
  | .ref a, [y], M, Q => ∃ ws, M a = some (.lst ws) ∧ ws.length < sizeLine ∧ Q .non (mup M a (.lst (ws ++ [y])))
  | _, _, _, _ => False
def xv (M : Mh) : W → Option (List W)
  | .tup ws => some ws
  | w => lv M w
theorem xv_tup {M : Mh} {ws : List W} : xv M (.tup ws) = some ws := rfl
theorem xv_lst {M : Mh} {ws : List W} : xv M (.lst ws) = some ws := rfl
theorem xv_ref {M : Mh} {a : Addr} {ws : List W} (h : M a = some (.lst ws)) : xv M (.ref a) = some ws := lv_ref h
def extendW : W → List W → Mh → QW → Prop
  | .ref a, [y], M, Q => ∃ ws us, M a = some (.lst ws) ∧ xv M y = some us ∧ ws.length + us.length ≤ sizeLine ∧ Q .non (mup M a (.lst (ws ++ us)))
  | _, _, _, _ => False
def popW : W → List W → Mh → QW → Prop
  | .ref a, [], M, Q => ∃ ws y, M a = some (.lst ws) ∧ ws[ws.length - 1]? = some y ∧ Q y (mup M a (.lst ws.dropLast))
  | _, _, _, _ => False
def popAtW : W → List W → Mh → QW → Prop
  | .ref a, [.int i], M, Q => ∃ ws k y, M a = some (.lst ws) ∧ -(2 ^ 63) ≤ i ∧ i < 2 ^ 63 ∧ seqIndex? i ws.length = some k ∧ ws[k]? = some y ∧ Q y (mup M a (.lst (ws.eraseIdx k)))
  | _, _, _, _ => False
def clearW : W → List W → Mh → QW → Prop
  | .ref a, [], M, Q => ∃ ws, M a = some (.lst ws) ∧ Q .non (mup M a (.lst []))
  | _, _, _, _ => False
def joinW : W → List W → Mh → QW → Prop
  | .str a, [y], M, Q => ∃ ys : List Str, sv M y = some (ys.map W.str) ∧ (ys.map (·.length)).sum + ys.length * a.length ≤ 16777216 ∧ Q (.str (Txt.join a ys)) M
  | _, _, _, _ => False
def splitW (own : Bool) : W → List W → Mh → QW → Prop
  | .str a, [.str b], M, Q => (b.length == 0) = false ∧ a.length + 2 ≤ sizeLine ∧ newL own ((Txt.split a b).map W.str) M Q
  | _, _, _, _ => False
def countW : W → List W → Mh → QW → Prop := fun x ws M Q => ∃ ys y, lv M x = some ys ∧ ws = [y] ∧ flatW y = true ∧ ys.all flatW = true ∧ Q (.int (ys.countP fun z => eqF z y : Nat)) M
def indexW : W → List W → Mh → QW → Prop := fun x ws M Q => ∃ ys y j z, lv M x = some ys ∧ ws = [y] ∧ flatW y = true ∧ ys.all flatW = true ∧ ys[j]? = some z ∧ eqF z y = true ∧ (∀ (m : Nat) (z' : W), m < j → ys[m]? = some z' → eqF z' y = false) ∧ Q (.int (j : Nat)) M
theorem flats_ok {F : Addr → Prop} {H : Hp} {y : W} {u : V} (ry : RW T F H y u) (fy : flatW y = true) : ∀ {ys : List W} {us : List V}, RWs T F H ys us → ys.all flatW = true → us.all flatV = true ∧ (us.countP fun z => eqV z u) = ys.countP fun z => eqF z y
  | [], _, r, _ => by rw [RWs.nil_.mp r]; exact ⟨rfl, rfl⟩
  | x :: xs, _, r, h => by
    obtain ⟨v, s, rfl, r1, r2⟩ := RWs.cons_.mp r
    rw [List.all_cons, Bool.and_eq_true] at h
    obtain ⟨h1, h2⟩ := flats_ok ry fy r2 h.2
    obtain ⟨h3, h4, h5⟩ := eqF_ok r1 ry h.1 fy
    refine ⟨by rw [List.all_cons, h3, h1]; rfl, ?_⟩
    rw [List.countP_cons, List.countP_cons, h2, h5]
def BM.w (own : Bool) : BM → W → List W → Mh → QW → Prop
  | .append => appendW
  | .extend => extendW
  | .pop => popW
  | .popAt => popAtW
  | .clear => clearW
  | .join => joinW
  | .split => splitW own
  | .count => countW
  | .index => indexW
def BM.recv (M : Mh) (b : BM) : W → Prop
  | .ref a => b.cls = "list" ∧ ∃ ws, M a = some (.lst ws)
  | .str _ => b.cls = "str"
  | .lst _ => b.cls = "list"
  | _ => False
theorem BM.recv_ok {F : Addr → Prop} {H : Hp} {M : Mh} {b : BM} {x : W} {v : V} (S : Sim T F H M) (rx : RW T F H x v) (h : b.recv M x) : tyV T.K b.cls v H := by
  cases x with
  | ref a =>
    obtain ⟨h1, ws, h2⟩ := h
    obtain ⟨_, vs, e, _⟩ := S.lst h2
    rw [RW.ref_.mp rx]
    exact .inl ⟨h1, vs, .of e⟩
  | str z => rw [RW.str_.mp rx]; exact h
  | lst ws =>
    obtain ⟨a, vs, rfl, _, e, _⟩ := RW.lst_.mp rx
    exact .inl ⟨h, vs, .of e⟩
  | _ => exact h.elim
theorem dropLast_ok {F : Addr → Prop} {H : Hp} : ∀ {ws : List W} {vs : List V}, RWs T F H ws vs → RWs T F H ws.dropLast vs.dropLast := fun {ws vs} r => by
  rw [List.dropLast_eq_take, List.dropLast_eq_take, ← r.length]
  exact r.take _
theorem BM.okM {own : Bool} : ∀ b : BM, OkM T (b.r T.K) (b.w own)
  | .append => fun F H M x xs v vs Qw Q S rx rs p k => by
    match x, xs, p with
    | .ref a, [y], ⟨ws, h1, h2, q⟩ =>
      obtain ⟨u, s, rfl, r1, r2⟩ := RWs.cons_.mp rs
      rw [RWs.nil_.mp r2, RW.ref_.mp rx]
      obtain ⟨_, us, e, r⟩ := S.lst h1
      obtain ⟨x1, S1⟩ := S.put (o := .lst (us ++ [u])) (u := .lst (ws ++ [y])) h1 ⟨_, rfl, r.append (.cons r1 .nil)⟩
      exact ⟨a, us, u, rfl, rfl, e, by rw [← r.length]; exact h2, k _ _ _ _ _ x1 (RW.non_.mpr rfl) S1 q⟩
  | .extend => fun F H M x xs v vs Qw Q S rx rs p k => by
    match x, xs, p with
    | .ref a, [y], ⟨ws, zs, h1, h3, h2, q⟩ =>
      obtain ⟨u, s, rfl, r1, r2⟩ := RWs.cons_.mp rs
      rw [RWs.nil_.mp r2, RW.ref_.mp rx]
      obtain ⟨_, us, e, r⟩ := S.lst h1
      by_cases ht : ∃ zs', y = .tup zs'
      · obtain ⟨zs', rfl⟩ := ht
        cases h3
        obtain ⟨b, ys, rfl, e2, r3⟩ := RW.tup_.mp r1
        obtain ⟨x1, S1⟩ := S.put (o := .lst (us ++ ys)) (u := .lst (ws ++ zs)) h1 ⟨_, rfl, r.append r3⟩
        exact .inr ⟨a, b, us, ys, rfl, rfl, e, e2, by rw [← r.length, ← r3.length]; exact h2, k _ _ _ _ _ x1 (RW.non_.mpr rfl) S1 q⟩
      · have h3 : lv M y = some zs := by
          cases y with
          | tup zs' => exact absurd ⟨_, rfl⟩ ht
          | _ => exact h3
        obtain ⟨b, ys, rfl, e2, r3⟩ := lv_ok S r1 h3
        obtain ⟨x1, S1⟩ := S.put (o := .lst (us ++ ys)) (u := .lst (ws ++ zs)) h1 ⟨_, rfl, r.append r3⟩
        exact .inl ⟨a, b, us, ys, rfl, rfl, e, e2, by rw [← r.length, ← r3.length]; exact h2, k _ _ _ _ _ x1 (RW.non_.mpr rfl) S1 q⟩
  | .pop => fun F H M x xs v vs Qw Q S rx rs p k => by
    match x, xs, p with
    | .ref a, [], ⟨ws, y, h1, h2, q⟩ =>
      rw [RWs.nil_.mp rs, RW.ref_.mp rx]
      obtain ⟨_, us, e, r⟩ := S.lst h1
      obtain ⟨u, h3, r3⟩ := r.get h2
      obtain ⟨x1, S1⟩ := S.put (o := .lst us.dropLast) (u := .lst ws.dropLast) h1 ⟨_, rfl, dropLast_ok r⟩
      exact ⟨a, us, u, rfl, rfl, e, by rw [← r.length]; exact h3, k _ _ _ _ _ x1 (r3.ext x1) S1 q⟩
  | .popAt => fun F H M x xs v vs Qw Q S rx rs p k => by
    match x, xs, p with
    | .ref a, [.int i], ⟨ws, j, y, h1, h4, h5, h6, h2, q⟩ =>
      obtain ⟨u0, s, rfl, r1, r2⟩ := RWs.cons_.mp rs
      rw [RWs.nil_.mp r2, RW.ref_.mp rx, RW.int_.mp r1]
      obtain ⟨_, us, e, r⟩ := S.lst h1
      obtain ⟨u, h3, r3⟩ := r.get h2
      obtain ⟨x1, S1⟩ := S.put (o := .lst (us.eraseIdx j)) (u := .lst (ws.eraseIdx j)) h1 ⟨_, rfl, r.erase j⟩
      exact ⟨a, us, i, j, u, rfl, rfl, e, h4, h5, by rw [← r.length]; exact h6, h3, k _ _ _ _ _ x1 (r3.ext x1) S1 q⟩
  | .clear => fun F H M x xs v vs Qw Q S rx rs p k => by
    match x, xs, p with
    | .ref a, [], ⟨ws, h1, q⟩ =>
      rw [RWs.nil_.mp rs, RW.ref_.mp rx]
      obtain ⟨_, us, e, r⟩ := S.lst h1
      obtain ⟨x1, S1⟩ := S.put (o := .lst []) (u := .lst []) h1 ⟨_, rfl, .nil⟩
      exact ⟨a, us, rfl, rfl, e, k _ _ _ _ _ x1 (RW.non_.mpr rfl) S1 q⟩
  | .join => fun F H M x xs v vs Qw Q S rx rs p k => by
    match x, xs, p with
    | .str a, [y], ⟨ys, h1, h2, q⟩ =>
      obtain ⟨u, s, rfl, r1, r2⟩ := RWs.cons_.mp rs
      rw [RWs.nil_.mp r2, RW.str_.mp rx]
      obtain ⟨b, us, rfl, e, r⟩ := sv_ok S r1 h1
      rw [r.strs_] at e
      exact ⟨a, b, ys, rfl, rfl, e, h2, k.now S (RW.str_.mpr rfl) q⟩
  | .split => fun F H M x xs v vs Qw Q S rx rs p k => by
    match x, xs, p with
    | .str a, [.str b], ⟨h1, h2, q⟩ =>
      obtain ⟨u, s, rfl, r1, r2⟩ := RWs.cons_.mp rs
      rw [RWs.nil_.mp r2, RW.str_.mp rx, RW.str_.mp r1]
      exact ⟨a, b, rfl, rfl, h1, h2, k.newL S (RWs.ofStrs _) q⟩
  | .count => fun F H M x xs v vs Qw Q S rx rs p k => by
    obtain ⟨ys, y, h1, rfl, fy, fys, q⟩ := p
    obtain ⟨u, s, rfl, r1, r2⟩ := RWs.cons_.mp rs
    rw [RWs.nil_.mp r2]
    obtain ⟨b, us, rfl, e, r⟩ := lv_ok S rx h1
    obtain ⟨h3, h4⟩ := flats_ok r1 fy r fys
    have h5 := (eqF_ok r1 r1 fy fy).1
    refine ⟨b, us, u, rfl, rfl, .of e, h5, h3, ?_⟩
    rw [h4]
    exact k.now S (RW.int_.mpr rfl) q
  | .index => fun F H M x xs v vs Qw Q S rx rs p k => by
    obtain ⟨ys, y, j, z, h1, rfl, fy, fys, hj, he, hn, q⟩ := p
    obtain ⟨u, s, rfl, r1, r2⟩ := RWs.cons_.mp rs
    rw [RWs.nil_.mp r2]
    obtain ⟨b, us, rfl, e, r⟩ := lv_ok S rx h1
    obtain ⟨h3, _⟩ := flats_ok r1 fy r fys
    have fl : ∀ {i : Nat} {w : W}, ys[i]? = some w → flatW w = true := fun h => List.all_eq_true.mp fys _ (List.mem_of_getElem? h)
    obtain ⟨v', e3, r3⟩ := r.get hj
    have h5 := (eqF_ok r1 r1 fy fy).1
    refine ⟨b, us, u, j, v', rfl, rfl, .of e, h5, h3, e3, by rw [(eqF_ok r3 r1 (fl hj) fy).2.2]; exact he, fun m z' hm hz => ?_, k.now S (RW.int_.mpr rfl) q⟩
    obtain ⟨w, e4, r4⟩ := r.getV hz
    rw [(eqF_ok r4 r1 (fl e4) fy).2.2]
    exact hn m w hm e4
end WL
namespace WL
open PySem PySem.Spec PyProof.Rows L2

section zipTS
def ItzS (K : PySem.W.Frag) (a : Addr) (n : Nat) (x : Str) : It :=
  ⟨fun i H => ∃ (xs : List V) (v : V), SqT K H a xs ∧ xs.length = n ∧ xs[i]? = some v ∧ i < x.cps.size,
    fun i H v H' => ∃ p y c, v = .ref p ∧ H p = none ∧ H' = upd H p (.tup [y, .str ⟨#[c]⟩]) ∧ (∀ xs, SqT K H a xs → xs[i]? = some y) ∧ x.cps[i]? = some c,
    fun i H => ∃ xs : List V, SqT K H a xs ∧ xs.length = n ∧ (n ≤ i ∨ x.cps.size ≤ i)⟩
structure SepTS (z TI TO i1 i2 a : Addr) : Prop where
  s : ZipSep2 z TI TO i1 i2 [i1, a] [i2]
  ai : a ≠ i1
theorem turn_zipTS {P : Program} {w : World} {K : PySem.W.Frag} {elts : List Expr} {kk : Nat} {tpos : Pos} {a z TI TO i1 i2 : Addr} {n : Nat} {x : Str} {tk0 : Tok} (D : SepTS z TI TO i1 i2 a) :
    Turn P w K (.Tuple elts kk tpos) (ItzS K a n x) [z, TI, TO, i1, i2] z (fun i h => (i ≤ n ∧ i ≤ x.cps.size) ∧ IsZip h z TI TO .none ∧ IsTupOf2 h TI (.ref i1) (.ref i2) ∧ (∃ u v, IsTupOf2 h TO u v) ∧ h.IsTupleIter i1 a i ∧ h.IsStrIter i2 (strIterType x) x tk0 i) where
  mem := by simp
  obj := fun i h st c hc => by
    obtain ⟨_, hz, hTI, ⟨x, y, hTO⟩, ⟨o1, e1, _, d1⟩, ⟨o2, e2, _, d2⟩⟩ := st
    have e' : c = z ∨ c = TI ∨ c = TO ∨ c = i1 ∨ c = i2 := by simpa using hc
    rcases e' with q | q | q | q | q
    · rw [q]; exact ⟨_, hz, fun v q => nomatch q⟩
    · rw [q]; exact ⟨_, hTI, fun v q => nomatch q⟩
    · rw [q]; exact ⟨_, hTO, fun v q => nomatch q⟩
    · rw [q]; exact ⟨o1, e1, fun v q => by rw [d1] at q; cases q⟩
    · rw [q]; exact ⟨o2, e2, fun v q => by rw [d2] at q; cases q⟩
  keep := fun i h h' st k => by
    obtain ⟨hl, hz, hTI, ⟨u, v, hTO⟩, h1, ⟨o, ho, r⟩⟩ := st
    exact ⟨hl, k z (by simp) _ hz, k TI (by simp) _ hTI, ⟨u, v, k TO (by simp) _ hTO⟩, h1.at fun o q => k i1 (by simp) o q, ⟨o, k i2 (by simp) o ho, r⟩⟩
  item := by
    intro X hP hw hK hc i pins s σ H E I hf st hg
    subst hP hw hK
    obtain ⟨hl, hz, hTI, ⟨x0, y0, hTO⟩, h1, h2⟩ := st
    obtain ⟨xs, v, hqx, hn, hx, hi⟩ := hg
    obtain ⟨its, rv, p, _⟩ := I.tuple hqx
    obtain ⟨u, hu, ru⟩ := rv.get hx
    have hzl : z < s.heap.objs.size := Heap.lt_size hz
    have l1 := rv.length
    have hi1 : i < its.toArray.size := by
      have := (List.getElem?_eq_some_iff.mp hu).1
      simpa using this
    refine wpAny_pyNext_zipD2_item D.s (Draws.tuple (A := X.A.in1) (by exact I.ok.hd hc) i1 a D.ai its.toArray) (Draws.text (A := X.A.in1) (by exact I.ok.hd hc) i2 x tk0) hz hTI hTO ⟨h1, p⟩ h2 hi1 hi
      fun u1 u2 h' tk p1 p2 z' TO' d1 d2 hT hsz hk => ?_
    obtain ⟨c, t2, hc2, rfl⟩ := p2
    have e1 : u1 = u := by
      have q1 : its.toArray[i]? = some u1 := p1
      have q2 : its.toArray[i]? = some u := by simpa using hu
      rw [q1] at q2; exact Option.some.inj q2
    subst e1
    refine ⟨_, rfl, wpAny_letOwnedTupleGo_zip (s := { s with heap := h', toks := tk }) z' fun h'' z'' sb => ?_⟩
    have hT2 : h''.get? s.heap.objs.size = some { cls := .type "tuple", data := .seq #[u1, .str ⟨#[c]⟩ t2] } := (sb.2 _ (Nat.ne_of_gt hzl)).trans hT
    have new : ObjOk X.prog X.w (upd H s.heap.objs.size (.tup [v, .str ⟨#[c]⟩])) h'' s.heap.objs.size (.tup [v, .str ⟨#[c]⟩]) :=
      ⟨by show 2 ≤ sizeLine; decide, [u1, .str ⟨#[c]⟩ t2], .cons ru (.cons ⟨_, rfl⟩ .nil), ⟨_, hT2, rfl, _, rfl⟩⟩
    have I1 : Inv X pins σ (upd H s.heap.objs.size (.tup [v, .str ⟨#[c]⟩])) { s with heap := h'', toks := tk } :=
      I.turnedNew (t' := tk) (ch := [z, TI, TO, i1, i2]) (fun c o hb q => (sb.2 c (fun q' => hb (by simp [q']))).trans (hk c o (fun q' => hb (by simp [q'])) (fun q' => hb (by simp [q'])) (fun q' => hb (by simp [q'])) (fun q' => hb (by simp [q'])) q)) hf (Nat.le_refl _) new
    have hle : i + 1 ≤ n := by
      have := (List.getElem?_eq_some_iff.mp hx).1
      omega
    refine ⟨.ref s.heap.objs.size, _, I1, rfl, ⟨_, v, c, rfl, I.hok.fresh (Nat.le_refl _), rfl, fun l hl => by rw [I.tuple_inj hl hqx]; exact hx, hc2⟩, ⟨⟨hle, hi⟩, z'', ?_, ⟨u1, .str ⟨#[c]⟩ t2, ?_⟩, ?_, ?_⟩, fun c hcm => ?_⟩
    · exact (sb.2 _ D.s.TIz).trans (hk _ _ D.s.TIz D.s.TITO D.s.TIi1 D.s.TIi2 hTI)
    · exact (sb.2 _ D.s.TOz).trans TO'
    · exact d1.1.at fun o q => (sb.2 _ (Ne.symm D.s.zi1)).trans q
    · obtain ⟨o, ho, r⟩ := d2
      exact ⟨o, (sb.2 _ (Ne.symm D.s.zi2)).trans ho, r⟩
    · have hlt : c < s.heap.objs.size := by
        have e' : c = z ∨ c = TI ∨ c = TO ∨ c = i1 ∨ c = i2 := by simpa using hcm
        rcases e' with q | q | q | q | q
        · rw [q]; exact hzl
        · rw [q]; exact Heap.lt_size hTI
        · rw [q]; exact Heap.lt_size hTO
        · rw [q]; obtain ⟨_, e1, _⟩ := h1; exact Heap.lt_size e1
        · rw [q]; obtain ⟨_, e2, _⟩ := h2; exact Heap.lt_size e2
      rw [upd_ne (Nat.ne_of_lt hlt)]
      exact (hf c hcm).1
  done := by
    intro X hP hw hK hc i pins s σ H E I hf st hg
    subst hP hw hK
    obtain ⟨hl, hz, hTI, ⟨x0, y0, hTO⟩, h1, h2⟩ := st
    obtain ⟨xs, hqx, hn, hend⟩ := hg
    obtain ⟨its, rv, p, _⟩ := I.tuple hqx
    have l1 := rv.length
    refine wpAny_pyNext_zipD2_end D.s (Draws.tuple (A := X.A.in1) (by exact I.ok.hd hc) i1 a D.ai its.toArray) (Draws.text (A := X.A.in1) (by exact I.ok.hd hc) i2 x tk0) hz hTI hTO ⟨h1, p⟩ h2
      (by rw [List.size_toArray]; omega) hl.2 (by rw [List.size_toArray]; omega) fun h' tk hk => ⟨rfl, I.turnedL (t' := tk) (ch := [z, TI, TO, i1, i2]) (fun c o hb q =>
      hk c o (fun q' => hb (by simp [q'])) (fun q' => hb (by simp [q'])) (fun q' => hb (by simp [q'])) (fun q' => hb (by simp [q'])) q) hf⟩
  self := fun A i s Q E st h => wpAny_pyIter_zip st.2.1 h
def iZipS (K : PySem.W.Frag) (ta : TA) : TI := fun σ H R => ta σ H fun vs H1 => ∃ a x xs, vs = [.ref a, .str x] ∧ SqT K H1 a xs ∧ R (ItzS K a xs.length x) H1
theorem pi_zipS {X : Cx} {e e2 : Expr} {ta : TA} {p pos tpos : Pos} {elts : List Expr} {kk : Nat} (hg : Gl X "zip") (hm : X.mg "zip" = none) (ha : PA X [e, e2] ta)
    (hs : starEach [e, e2] X.env = (false, eval e X.env) :: starEach [e2] X.env) (hpl : (backTo pos (starEach [e2] X.env)).any (·.1) = false) :
    PI X (.Tuple elts kk tpos) (.Call (.Name "zip" p) [e, e2] [] pos) (iZipS X.K ta) := by
  refine ⟨fun pins s σ H R I h => ?_⟩
  refine Call_ (ld_blt I hg hm PyProof.Rows.boot_zip (PyProof.Rows.callWith_type1 (thn (ha.run pos pins s σ H _ I h) fun us s1 ⟨vs, H1, I1, r1, q1⟩ => ?_) hs hpl))
  obtain ⟨a, x, xs, ex, hqx, q⟩ := q1
  subst ex
  cases r1 with
  | cons r rr =>
    cases rr with
    | cons r' rr =>
      cases rr
      cases r
      obtain ⟨t, rfl⟩ := r'
      have fresh5 : ∀ c, c ∈ [s1.heap.objs.size + 4, s1.heap.objs.size + 2, s1.heap.objs.size + 3, s1.heap.objs.size, s1.heap.objs.size + 1] → FpOk X pins H1 c := fun c hcm => by
        have e' : c = s1.heap.objs.size + 4 ∨ c = s1.heap.objs.size + 2 ∨ c = s1.heap.objs.size + 3 ∨ c = s1.heap.objs.size ∨ c = s1.heap.objs.size + 1 := by simpa using hcm
        have hle : s1.heap.objs.size ≤ c := by
          rcases e' with z | z | z | z | z
          · rw [z]; exact Nat.le_add_right _ _
          · rw [z]; exact Nat.le_add_right _ _
          · rw [z]; exact Nat.le_add_right _ _
          · rw [z]; exact Nat.le_refl _
          · rw [z]; exact Nat.le_add_right _ _
        exact I1.fpOk hle (I1.hok.fresh hle)
      obtain ⟨its, rv, p1, _⟩ := I1.tuple hqx
      obtain ⟨o1, ho1, _⟩ := id p1
      have hal : a < s1.heap.objs.size := Heap.lt_size ho1
      refine zip_begins2 (begins_tuple a its.toArray) (begins_text x t) p1 trivial fun h' hz hTI hTO h1 h2 hsz hk => wpAny_pyIter_zip hz ?_
      have I2 : Inv X pins σ H1 { s1 with heap := h' } := I1.kept (t' := s1.toks) hk
      have S : ZipSep2 (s1.heap.objs.size + 4) (s1.heap.objs.size + 2) (s1.heap.objs.size + 3) s1.heap.objs.size (s1.heap.objs.size + 1) [s1.heap.objs.size, a] [s1.heap.objs.size + 1] := by
        refine zip_sep2 (fp1 := [a]) (fp2 := []) (fun b hb => ?_) (fun b hb => by simp at hb)
        rw [List.mem_singleton.mp hb]; exact hal
      refine ⟨s1.heap.objs.size + 4, [s1.heap.objs.size + 4, s1.heap.objs.size + 2, s1.heap.objs.size + 3, s1.heap.objs.size, s1.heap.objs.size + 1], _, _, H1, rfl, I2, turn_zipTS (tk0 := t) ⟨S, Nat.ne_of_lt hal⟩,
        ⟨⟨Nat.zero_le _, Nat.zero_le _⟩, hz, hTI, ⟨_, _, hTO⟩, ⟨_, h1, rfl, rfl⟩, ⟨_, h2, rfl, rfl⟩⟩, fresh5, q⟩
end zipTS

def iSq (K : PySem.W.Frag) (tl : TE) : TI := fun σ H R => tl σ H fun x H1 => (∃ a, x = .ref a ∧ (∃ xs, SqL K H1 a xs) ∧ R (Itl K a) H1) ∨ (∃ a, x = .ref a ∧ (∃ xs, SqT K H1 a xs) ∧ R (Itt K a) H1) ∨ ∃ z, x = .str z ∧ R (Its z) H1
theorem pi_sq {X : Cx} {tg l : Expr} {tl : TE} (hl : PE X l tl) : PI X tg l (iSq X.K tl) := by
  refine ⟨fun pins s σ H R I h => ?_⟩
  refine thn (hl.run pins s σ H _ I h) fun v s1 ⟨x, H1, I1, r1, q1⟩ => ?_
  have C1 : PE X (.Constant .none 0 default) (fun _ H Q => H = H1 ∧ Q x H) → True := fun _ => trivial
  rcases q1 with ⟨a, e, ⟨xs, hq⟩, q⟩ | ⟨a, e, ⟨xs, hq⟩, q⟩ | ⟨z, e, q⟩
  · subst e
    cases r1
    obtain ⟨its, rv, p, hz⟩ := I1.list hq
    refine wpAny_pyIter_list p.isList ?_
    refine ⟨s1.heap.objs.size, [s1.heap.objs.size], _, _, H1, rfl, I1.kept (t' := s1.toks) fun b o e => Heap.get?_push_of_some _ e, turn_list a _, ⟨_, Heap.get?_push_size _ rfl, rfl, rfl⟩, fun b hb => ?_, q⟩
    have e : b = s1.heap.objs.size := by simpa using hb
    subst e
    exact I1.fpOk (Nat.le_refl _) (I1.hok.fresh (Nat.le_refl _))
  · subst e
    cases r1
    obtain ⟨its, rv, p, hz⟩ := I1.tuple hq
    refine wpAny_pyIter_tuple (show s1.heap.IsTuple a its.toArray from p) ?_
    refine ⟨s1.heap.objs.size, [s1.heap.objs.size], _, _, H1, rfl, I1.kept (t' := s1.toks) fun b o e => Heap.get?_push_of_some _ e, turn_tuple a _, ⟨_, Heap.get?_push_size _ rfl, rfl, rfl⟩, fun b hb => ?_, q⟩
    have e : b = s1.heap.objs.size := by simpa using hb
    subst e
    exact I1.fpOk (Nat.le_refl _) (I1.hok.fresh (Nat.le_refl _))
  · subst e
    obtain ⟨t, rfl⟩ := r1
    refine wpAny_pyIter_strU ?_
    have hty : strIterType z = "str_ascii_iterator" ∨ strIterType z = "str_iterator" := by
      unfold strIterType
      split
      · exact .inl rfl
      · exact .inr rfl
    refine ⟨s1.heap.objs.size, [s1.heap.objs.size], _, _, H1, rfl, I1.kept (t' := s1.toks) fun b o e => Heap.get?_push_of_some _ e, turn_str s1.heap.objs.size z t _ hty, ⟨_, Heap.get?_push_size _ rfl, rfl, rfl⟩, fun b hb => ?_, q⟩
    have e : b = s1.heap.objs.size := by simpa using hb
    subst e
    exact I1.fpOk (Nat.le_refl _) (I1.hok.fresh (Nat.le_refl _))

variable {T : Tb}
structure Wk (T : Tb) (F0 : Addr → Prop) (H0 : Hp) (J : It) (ws : List W) (G : Mh → Prop) : Prop where
  go : ∀ F H M i, Ext F0 H0 F H → Sim T F H M → G M → i < ws.length → J.go i H
  stop : ∀ F H M i, Ext F0 H0 F H → Sim T F H M → G M → ws.length ≤ i → J.stop i H
  yld : ∀ F H M i w x H', Ext F0 H0 F H → Sim T F H M → G M → ws[i]? = some w → J.yld i H x H' → ∃ F', Ext F H F' H' ∧ Sim T F' H' M ∧ RW T F' H' w x
theorem Wk.ext {F0 F1 : Addr → Prop} {H0 H1 : Hp} {J : It} {ws : List W} {G : Mh → Prop} (k : Wk T F0 H0 J ws G) (e : Ext F0 H0 F1 H1) : Wk T F1 H1 J ws G :=
  ⟨fun F H M i x => k.go F H M i (e.trans x), fun F H M i x => k.stop F H M i (e.trans x), fun F H M i w y H' x => k.yld F H M i w y H' (e.trans x)⟩
abbrev DI := Sw → Mh → (List W → (Mh → Prop) → Mh → Prop) → QX → Prop
def cI (T : Tb) (E : XK) (ι : DI) : TI := fun σ H R => ∃ F σw M Rw Ew, RS T F H σw σ ∧ Sim T F H M ∧ ι σw M Rw Ew ∧
  (∀ ws G M' J H' F', Ext F H F' H' → Sim T F' H' M' → G M' → Wk T F' H' J ws G → Rw ws G M' → R J H') ∧ ExK T E F H Ew
theorem PI.imp {X : Cx} {tg e : Expr} {t t' : TI} (h : PI X tg e t) (k : ∀ σ H R, t' σ H R → t σ H R) : PI X tg e t' := ⟨fun pins s σ H R I q => h.run pins s σ H R I (k _ _ _ q)⟩
theorem wk_list {F : Addr → Prop} {H : Hp} {a : Addr} {ws : List W} {vs : List V} {G : Mh → Prop} (r : RWs T F H ws vs) (h : ∀ F' H' M', Ext F H F' H' → Sim T F' H' M' → G M' → ∃ vs', SqL T.K H' a vs' ∧ RWs T F' H' ws vs') :
    Wk T F H (Itl T.K a) ws G where
  go := fun F1 H1 M i e S g hi => by
    obtain ⟨us, q, r1⟩ := h F1 H1 M e S g
    have hl := r1.length
    exact ⟨us, us[i]'(by omega), q, List.getElem?_eq_getElem (by omega)⟩
  stop := fun F1 H1 M i e S g hi => by
    obtain ⟨us, q, r1⟩ := h F1 H1 M e S g
    have hl := r1.length
    exact ⟨us, q, by omega⟩
  yld := fun F1 H1 M i w x H' e S g hw y => by
    obtain ⟨us, q, r1⟩ := h F1 H1 M e S g
    obtain ⟨eH, y⟩ := y
    subst eH
    obtain ⟨v, hv, rv⟩ := r1.get hw
    rw [y us q] at hv
    cases hv
    exact ⟨F1, .refl, S, rv⟩
theorem wk_tup {F : Addr → Prop} {H : Hp} {a : Addr} {ws : List W} {vs : List V} {G : Mh → Prop} (h : SqT T.K H a vs) (r : RWs T F H ws vs) : Wk T F H (Itt T.K a) ws G where
  go := fun F1 H1 M i e S g hi => by
    have hl := r.length
    exact ⟨vs, vs[i]'(by omega), e.sqt h, List.getElem?_eq_getElem (by omega)⟩
  stop := fun F1 H1 M i e S g hi => by
    have hl := r.length
    exact ⟨vs, e.sqt h, by omega⟩
  yld := fun F1 H1 M i w x H' e S g hw y => by
    obtain ⟨eH, y⟩ := y
    subst eH
    obtain ⟨v, hv, rv⟩ := r.get hw
    rw [y vs (e.sqt h)] at hv
    cases hv
    exact ⟨F1, .refl, S, rv.ext e⟩
def signs (z : Str) : List W := z.cps.toList.map fun c => W.str ⟨#[c]⟩
theorem wk_str {F : Addr → Prop} {H : Hp} {z : Str} {G : Mh → Prop} : Wk T F H (Its z) (signs z) G where
  go := fun F1 H1 M i e S g hi => by
    show i < z.cps.size
    simpa [signs] using hi
  stop := fun F1 H1 M i e S g hi => by
    show z.cps.size ≤ i
    simpa [signs] using hi
  yld := fun F1 H1 M i w x H' e S g hw y => by
    obtain ⟨eH, c, hc, y⟩ := y
    subst eH y
    unfold signs at hw
    rw [List.getElem?_map, Array.getElem?_toList, hc] at hw
    cases hw
    exact ⟨F1, .refl, S, RW.str_.mpr rfl⟩
def rangeL (lo hi : Int) : List W := (List.range (hi - lo).toNat).map fun i : Nat => W.int (lo + i)
theorem wk_rng {F : Addr → Prop} {H : Hp} {lo hi : Int} {G : Mh → Prop} : Wk T F H (Itr lo (hi - lo).toNat) (rangeL lo hi) G where
  go := fun F1 H1 M i e S g hi => by
    show i < _
    simpa [rangeL] using hi
  stop := fun F1 H1 M i e S g hi => by
    show _ ≤ i
    simpa [rangeL] using hi
  yld := fun F1 H1 M i w x H' e S g hw y => by
    obtain ⟨eH, y⟩ := y
    subst eH y
    unfold rangeL at hw
    rw [List.getElem?_map] at hw
    cases q : (List.range (hi - lo).toNat)[i]? with
    | none => rw [q] at hw; cases hw
    | some j =>
      rw [q] at hw; cases hw
      have : j = i := by
        have := List.getElem?_eq_some_iff.mp q
        obtain ⟨_, e⟩ := this
        rw [List.getElem_range] at e
        exact e.symm
      subst this
      exact ⟨F1, .refl, S, RW.int_.mpr rfl⟩
theorem yld_pair {F : Addr → Prop} {H : Hp} {M : Mh} {p : Addr} {a b : W} {x y : V} (S : Sim T F H M) (hp : H p = none) (ra : RW T F H a x) (rb : RW T F H b y) :
    ∃ F', Ext F H F' (upd H p (.tup [x, y])) ∧ Sim T F' (upd H p (.tup [x, y])) M ∧ RW T F' (upd H p (.tup [x, y])) (.tup [a, b]) (.ref p) := by
  obtain ⟨e, S'⟩ := S.newT (vs := [x, y]) hp
  exact ⟨F, e, S', RW.tup_.mpr ⟨p, _, rfl, .of upd_same, .cons (ra.ext e) (.cons (rb.ext e) .nil)⟩⟩
def pairs : List W → List W → List W
  | a :: as, b :: bs => .tup [a, b] :: pairs as bs
  | _, _ => []
theorem pairs_length : ∀ as bs : List W, (pairs as bs).length = min as.length bs.length
  | [], _ => by simp [pairs]
  | _ :: _, [] => by simp [pairs]
  | a :: as, b :: bs => by simp only [pairs, List.length_cons, pairs_length as bs]; omega
theorem pairs_get : ∀ {as bs : List W} {i : Nat} {w : W}, (pairs as bs)[i]? = some w → ∃ a b, as[i]? = some a ∧ bs[i]? = some b ∧ w = .tup [a, b]
  | [], _, i, w, h => by simp [pairs] at h
  | _ :: _, [], i, w, h => by simp [pairs] at h
  | a :: as, b :: bs, 0, w, h => by simp [pairs] at h; exact ⟨a, b, rfl, rfl, h.symm⟩
  | a :: as, b :: bs, i + 1, w, h => by
    simp only [pairs, List.getElem?_cons_succ] at h
    obtain ⟨x, y, h1, h2, h3⟩ := pairs_get h
    exact ⟨x, y, by simpa using h1, by simpa using h2, h3⟩
theorem wk_zipS {F : Addr → Prop} {H : Hp} {a : Addr} {ws : List W} {vs : List V} {z : Str} {G : Mh → Prop} (h : SqT T.K H a vs) (r : RWs T F H ws vs) : Wk T F H (ItzS T.K a vs.length z) (pairs ws (signs z)) G where
  go := fun F1 H1 M i e S g hi => by
    have hl := r.length
    rw [pairs_length] at hi
    have h2 : (signs z).length = z.cps.size := by simp [signs]
    exact ⟨vs, vs[i]'(by omega), e.sqt h, rfl, List.getElem?_eq_getElem (by omega), by omega⟩
  stop := fun F1 H1 M i e S g hi => by
    have hl := r.length
    rw [pairs_length] at hi
    have h2 : (signs z).length = z.cps.size := by simp [signs]
    exact ⟨vs, e.sqt h, rfl, by omega⟩
  yld := fun F1 H1 M i w x H' e S g hw y => by
    obtain ⟨p, v, c, rfl, hp, rfl, hv, hc⟩ := y
    obtain ⟨b, d, h1, h2, rfl⟩ := pairs_get hw
    obtain ⟨v2, h3, r3⟩ := r.get h1
    rw [hv vs (e.sqt h)] at h3
    cases h3
    unfold signs at h2
    rw [List.getElem?_map, Array.getElem?_toList, hc] at h2
    cases h2
    exact yld_pair S hp (r3.ext e) (RW.str_.mpr rfl)
def enums (k : Nat) : List W → List W
  | [] => []
  | a :: as => .tup [.int (k : Nat), a] :: enums (k + 1) as
theorem enums_length : ∀ (k : Nat) (as : List W), (enums k as).length = as.length
  | _, [] => rfl
  | k, a :: as => by simp only [enums, List.length_cons, enums_length (k + 1) as]
theorem enums_get : ∀ {k : Nat} {as : List W} {i : Nat} {w : W}, (enums k as)[i]? = some w → ∃ a, as[i]? = some a ∧ w = .tup [.int ((k + i : Nat) : Int), a]
  | _, [], i, w, h => by simp [enums] at h
  | k, a :: as, 0, w, h => by simp [enums] at h; exact ⟨a, rfl, h.symm⟩
  | k, a :: as, i + 1, w, h => by
    simp only [enums, List.getElem?_cons_succ] at h
    obtain ⟨x, h1, h3⟩ := enums_get h
    exact ⟨x, by simpa using h1, by rw [h3]; congr 3; omega⟩
theorem wk_enum {F : Addr → Prop} {H : Hp} {a : Addr} {ws : List W} {G : Mh → Prop} (h : ∀ F' H' M', Ext F H F' H' → Sim T F' H' M' → G M' → ∃ vs', SqL T.K H' a vs' ∧ RWs T F' H' ws vs') : Wk T F H (Ite T.K a) (enums 0 ws) G where
  go := fun F1 H1 M i e S g hi => by
    obtain ⟨us, q, r1⟩ := h F1 H1 M e S g
    have hl := r1.length
    rw [enums_length] at hi
    exact ⟨us, us[i]'(by omega), q, List.getElem?_eq_getElem (by omega)⟩
  stop := fun F1 H1 M i e S g hi => by
    obtain ⟨us, q, r1⟩ := h F1 H1 M e S g
    have hl := r1.length
    rw [enums_length] at hi
    exact ⟨us, q, by omega⟩
  yld := fun F1 H1 M i w x H' e S g hw y => by
    obtain ⟨us, q, r1⟩ := h F1 H1 M e S g
    obtain ⟨p, v, rfl, hp, rfl, hv⟩ := y
    obtain ⟨b, h1, rfl⟩ := enums_get hw
    obtain ⟨v2, h3, r3⟩ := r1.get h1
    rw [hv us q] at h3
    cases h3
    rw [Nat.zero_add]
    exact yld_pair S hp (RW.int_.mpr rfl) r3
def walkW (M : Mh) : W → List W → (Mh → Prop) → Prop
  | .lst ws, us, G => us = ws ∧ G = fun _ => True
  | .scr ws, us, G => us = ws ∧ G = fun _ => True
  | .tup ws, us, G => us = ws ∧ G = fun _ => True
  | .str z, us, G => us = signs z ∧ G = fun _ => True
  | .ref a, us, G => M a = some (.lst us) ∧ G = fun M => M a = some (.lst us)
  | _, _, _ => False
theorem walk_w {F : Addr → Prop} {H : Hp} {M : Mh} {x : W} {v : V} {us : List W} {G : Mh → Prop} (S : Sim T F H M) (rx : RW T F H x v) (h : walkW M x us G) :
    G M ∧ ((∃ a, v = .ref a ∧ (∃ xs, SqL T.K H a xs) ∧ Wk T F H (Itl T.K a) us G) ∨ (∃ a, v = .ref a ∧ (∃ xs, SqT T.K H a xs) ∧ Wk T F H (Itt T.K a) us G) ∨ ∃ z, v = .str z ∧ Wk T F H (Its z) us G) := by
  cases x with
  | lst ws =>
    obtain ⟨rfl, rfl⟩ := h
    obtain ⟨a, vs, rfl, f, e, r⟩ := RW.lst_.mp rx
    exact ⟨trivial, .inl ⟨a, rfl, ⟨vs, .of e⟩, wk_list r fun F' H' M' x _ _ => ⟨vs, .of ((x.fz a f).2.trans e), r.ext x⟩⟩⟩
  | scr ws =>
    obtain ⟨rfl, rfl⟩ := h
    obtain ⟨a, vs, rfl, e, r⟩ := RW.scr_.mp rx
    exact ⟨trivial, .inl ⟨a, rfl, ⟨vs, e.sq⟩, wk_list r fun F' H' M' x _ _ => ⟨vs, (x.scr e).sq, r.ext x⟩⟩⟩
  | tup ws =>
    obtain ⟨rfl, rfl⟩ := h
    obtain ⟨a, vs, rfl, e, r⟩ := RW.tup_.mp rx
    exact ⟨trivial, .inr (.inl ⟨a, rfl, ⟨vs, e⟩, wk_tup e r⟩)⟩
  | str z =>
    obtain ⟨rfl, rfl⟩ := h
    exact ⟨trivial, .inr (.inr ⟨z, RW.str_.mp rx, wk_str⟩)⟩
  | ref a =>
    obtain ⟨h1, rfl⟩ := h
    obtain ⟨_, vs, e, r⟩ := S.lst h1
    exact ⟨h1, .inl ⟨a, RW.ref_.mp rx, ⟨vs, .of e⟩, wk_list r fun F' H' M' x S' g => by
      obtain ⟨_, vs', e', r'⟩ := S'.lst g
      exact ⟨vs', .of e', r'⟩⟩⟩
  | _ => exact h.elim
end WL
namespace WL
open PySem PySem.Spec PyProof.Rows L2

def noStar : Expr → Bool
  | .Starred .. => false
  | _ => true
theorem star_cons {e : Expr} {es : List Expr} {env : Env} (h : noStar e = true) : starEach (e :: es) env = (false, eval e env) :: starEach es env := by
  cases e <;> first | rfl | cases h
theorem star_all : ∀ {es : List Expr} {env : Env}, es.all noStar = true → ∀ x ∈ starEach es env, x.1 = false
  | [], _, _, x, hx => by simp [starEach] at hx
  | e :: es, env, h, x, hx => by
    rw [List.all_cons, Bool.and_eq_true] at h
    rw [star_cons h.1] at hx
    rcases List.mem_cons.mp hx with rfl | hx
    · rfl
    · exact star_all h.2 x hx
theorem star_any {es : List Expr} {env : Env} {pos : Pos} (h : es.all noStar = true) : (backTo pos (starEach es env)).any (·.1) = false := by
  rw [List.any_eq_false]
  intro x hx
  unfold backTo at hx
  obtain ⟨y, hy, rfl⟩ := List.mem_map.mp hx
  have := star_all h y hy
  simp [this]
theorem star_every {es : List Expr} {env : Env} {pos : Pos} (h : es.all noStar = true) : (backTo pos (starEach es env)).all (fun x => !x.1) = true := by
  rw [List.all_eq_true]
  intro x hx
  unfold backTo at hx
  obtain ⟨y, hy, rfl⟩ := List.mem_map.mp hx
  have := star_all h y hy
  simp [this]
def plainBase : Expr → Bool
  | .Call (.Name _ _) [] [] _ => false
  | _ => true
theorem base_of {o : Expr} {m : Str} {env : Env} (h : plainBase o = true) : attributeBase o m env (eval o env) = eval o env := by
  cases o with
  | Call f as ks p =>
    cases f with
    | Name id q =>
      cases as with
      | nil => cases ks with
        | nil => cases h
        | cons _ _ => rfl
      | cons _ _ => rfl
    | _ => rfl
  | _ => rfl
def plainIx : Expr → Bool
  | .Slice .. => false
  | _ => true
theorem ix_of {b : Expr} (h : plainIx b = true) : PlainIx b := by
  intro o i
  cases b <;> first | rfl | cases h
def noSet : Expr → Bool
  | .Set .. => false
  | _ => true
theorem folded_of {e : Expr} {env : Env} (h : noSet e = true) : ∀ x, foldedSetIterable e env x = pure x := by
  intro x
  cases e <;> first | rfl | cases h
theorem marks_of {e : Expr} {op : CmpOp} (h : noSet e = true) : behindInMarks op e = false := by
  cases e <;> first | rfl | cases h
def plainTest : Expr → Bool
  | .UnaryOp .Not _ _ => false
  | .BoolOp .. => false
  | .IfExp .. => false
  | .Compare .. => false
  | _ => true
theorem test_of {e : Expr} {env : Env} (h : plainTest e = true) : ∀ whole, isTrue e env whole = (do let v ← whole; standAt e.pos; holding [v] (truthy v)) := by
  intro whole
  cases e with
  | UnaryOp op x p => cases op <;> first | rfl | cases h
  | BoolOp _ _ _ => cases h
  | IfExp _ _ _ _ => cases h
  | Compare _ _ _ _ => cases h
  | _ => rfl
def noComp : Expr → Bool
  | .ListComp .. => false
  | .SetComp .. => false
  | .DictComp .. => false
  | _ => true
theorem swaps_of {e : Expr} {t : Option Expr} {l : Nat} {env : Env} (h : noComp e = true) : swapsWith e t l env = pure false := by
  cases e <;> first | rfl | cases h
def visB (sc : Scope) (x : Str) : Bool := match sc.names.lookup x with
  | some .local => true
  | some .cell => true
  | some .free => true
  | _ => false
theorem vis_of {sc : Scope} {x : Str} (h : visB sc x = true) : Vis sc x := by
  unfold visB at h
  cases e : sc.names.lookup x with
  | none => rw [e] at h; cases h
  | some k => cases k with
    | «local» => exact .inl e
    | cell => exact .inr (.inl e)
    | free => exact .inr (.inr e)
    | globalExplicit => rw [e] at h; cases h
    | globalImplicit => rw [e] at h; cases h
def locB (sc : Scope) (x : Str) : Bool := match sc.names.lookup x with
  | some .local => true
  | some .cell => true
  | _ => false
theorem loc_of {sc : Scope} {x : Str} (h : locB sc x = true) : Loc sc x := by
  unfold locB at h
  cases e : sc.names.lookup x with
  | none => rw [e] at h; cases h
  | some k => cases k with
    | «local» => exact .inl e
    | cell => exact .inr e
    | free => rw [e] at h; cases h
    | globalExplicit => rw [e] at h; cases h
    | globalImplicit => rw [e] at h; cases h
def glB (sc : Scope) (x : Str) : Bool := decide (sc.names.lookup x = some .globalImplicit)
def okName (x : Str) : Bool := !(x == ("__debug__" : Str)) && !(x == ("__classdict__" : Str)) && decide (x ≠ "__name__")
theorem okName_of {x : Str} (h : okName x = true) : (x == ("__debug__" : Str)) = false ∧ (x == ("__classdict__" : Str)) = false ∧ x ≠ "__name__" := by
  unfold okName at h
  simp only [Bool.and_eq_true, Bool.not_eq_true', decide_eq_true_eq] at h
  exact ⟨h.1.1, h.1.2, h.2⟩

variable {T : Tb} {X : Cx} {E : XK}
def d2 (p : W → W → Mh → QW → Prop) (τa τb : DE) : DE := fun σ M Q Ex => τa σ M (fun x M1 => τb σ M1 (fun y M2 => p x y M2 Q) Ex) Ex
theorem ce_bin {τa τb : DE} {r : R2} {p : W → W → Mh → QW → Prop} (k : Ok2 T r p) {σ : L2.St} {H : Hp} {Q : VK} (h : cE T E (d2 p τa τb) σ H Q) : tOp r (cE T E τa) (cE T E τb) σ H Q := by
  obtain ⟨F, σw, M, Qw, Ew, rs, S, t, kq, kx⟩ := h
  refine ⟨F, σw, M, _, Ew, rs, S, t, fun x M1 v H1 F1 e1 r1 S1 t1 => ?_, kx⟩
  refine ⟨F1, σw, M1, _, Ew, rs.ext e1, S1, t1, fun y M2 u H2 F2 e2 r2 S2 t2 => ?_, kx.ext e1⟩
  exact k F2 H2 M2 x y v u Qw Q S2 (r1.ext e2) r2 t2 fun w M' z H' F' e' rw' S' q => kq w M' z H' F' ((e1.trans e2).trans e') rw' S' q
theorem ae_op {op : Operator} {a b : Expr} {pos : Pos} {τa τb : DE} {r : R2} {p : W → W → Mh → QW → Prop} (ho : OpR X (binaryOp op) r) (k : Ok2 T r p) (ha : PE X a (cE T E τa)) (hb : PE X b (cE T E τb)) :
    PE X (.BinOp a op b pos) (cE T E (d2 p τa τb)) := PE.imp (pe_op ho ha hb) fun σ H Q h => ce_bin k h
theorem ae_cmp {op : CmpOp} {a b : Expr} {pos : Pos} {τa τb : DE} {r : R2} {p : W → W → Mh → QW → Prop} (ho : OpR X (compareOp op) r) (k : Ok2 T r p) (ha : PE X a (cE T E τa)) (hb : PE X b (cE T E τb)) (hm : behindInMarks op b = false) :
    PE X (.Compare a [op] [b] pos) (cE T E (d2 p τa τb)) := PE.imp (pe_cmpR ho ha hb hm) fun σ H Q h => ce_bin k h
def dB (τ : DE) : DT := fun σ M Q Ex => τ σ M (fun x M1 => ∃ b, x = .bl b ∧ Q b M1) Ex
theorem ct_bl {τ : DE} {t : TE} (h : ∀ σ H Q, cE T E τ σ H Q → t σ H Q) {σ : L2.St} {H : Hp} {Q : Bool → Hp → Prop} (q : cT T E (dB τ) σ H Q) : tTest t σ H Q := by
  obtain ⟨F, σw, M, Qw, Ew, rs, S, t, kq, kx⟩ := q
  refine h σ H _ ⟨F, σw, M, _, Ew, rs, S, t, fun w M' v H' F' e r S' ⟨b, eb, q⟩ => ?_, kx⟩
  subst eb
  exact ⟨b, RW.bl_.mp r, kq b M' H' F' e S' q⟩
theorem at_cmp {op : CmpOp} {a b : Expr} {pos : Pos} {τa τb : DE} {r : R2} {p : W → W → Mh → QW → Prop} (ho : OpR X (compareOp op) r) (k : Ok2 T r p) (ha : PE X a (cE T E τa)) (hb : PE X b (cE T E τb)) (hm : behindInMarks op b = false) :
    PT X (.Compare a [op] [b] pos) (cT T E (dB (d2 p τa τb))) := PT.imp (pt_cmpR ho ha hb hm) fun σ H Q h => ct_bl (fun _ _ _ => ce_bin k) h
def dChain (p p' : W → W → Mh → QW → Prop) (τa τb τc : DE) : DE := fun σ M Q Ex => τa σ M (fun x M1 => τb σ M1 (fun y M2 => p x y M2 fun z M3 => ∃ b, z = .bl b ∧
  if b = true then τc σ M3 (fun u M4 => p' y u M4 Q) Ex else Q (.bl false) M3) Ex) Ex
theorem ce_chain {τa τb τc : DE} {r r' : R2} {p p' : W → W → Mh → QW → Prop} (k : Ok2 T r p) (k' : Ok2 T r' p') {σ : L2.St} {H : Hp} {Q : VK} (h : cE T E (dChain p p' τa τb τc) σ H Q) : tChain r r' (cE T E τa) (cE T E τb) (cE T E τc) σ H Q := by
  obtain ⟨F, σw, M, Qw, Ew, rs, S, t, kq, kx⟩ := h
  refine ⟨F, σw, M, _, Ew, rs, S, t, fun x M1 v H1 F1 e1 r1 S1 t1 => ?_, kx⟩
  refine ⟨F1, σw, M1, _, Ew, rs.ext e1, S1, t1, fun y M2 u H2 F2 e2 r2 S2 t2 => ?_, kx.ext e1⟩
  refine k F2 H2 M2 x y v u _ _ S2 (r1.ext e2) r2 t2 fun w M' z H' F' e' rw' S' q => ?_
  obtain ⟨b, eb, q⟩ := q
  subst eb
  refine ⟨b, RW.bl_.mp rw', ?_⟩
  have e3 := (e1.trans e2).trans e'
  cases b with
  | false =>
    rw [if_neg Bool.false_ne_true] at q ⊢
    exact kq _ _ _ _ _ e3 (RW.bl_.mpr rfl) S' q
  | true =>
    rw [if_pos rfl] at q ⊢
    refine ⟨F', σw, M', _, Ew, rs.ext e3, S', q, fun y2 M4 u4 H4 F4 e4 r4 S4 q4 => ?_, kx.ext e3⟩
    exact k' F4 H4 M4 y y2 u u4 Qw Q S4 ((r2.ext e').ext e4) r4 q4 fun w M5 z H5 F5 e5 r5 S5 q5 => kq w M5 z H5 F5 ((e3.trans e4).trans e5) r5 S5 q5
theorem ae_chain {op op' : CmpOp} {a b c : Expr} {pos : Pos} {τa τb τc : DE} {r r' : R2} {p p' : W → W → Mh → QW → Prop} (ho : OpR X (compareOp op) r) (ho' : OpR X (compareOp op') r') (k : Ok2 T r p) (k' : Ok2 T r' p')
    (ha : PE X a (cE T E τa)) (hb : PE X b (cE T E τb)) (hc : PE X c (cE T E τc)) (hm' : behindInMarks op' c = false) :
    PE X (.Compare a [op, op'] [b, c] pos) (cE T E (dChain p p' τa τb τc)) := PE.imp (pe_chain ho ho' ha hb hc (show lastMarks [op'] [c] = false from hm')) fun σ H Q h => ce_chain k k' h
theorem at_chain {op op' : CmpOp} {a b c : Expr} {pos : Pos} {τa τb τc : DE} {r r' : R2} {p p' : W → W → Mh → QW → Prop} (ho : OpR X (compareOp op) r) (ho' : OpR X (compareOp op') r') (k : Ok2 T r p) (k' : Ok2 T r' p')
    (ha : PE X a (cE T E τa)) (hb : PE X b (cE T E τb)) (hc : PE X c (cE T E τc)) (hm' : behindInMarks op' c = false) :
    PT X (.Compare a [op, op'] [b, c] pos) (cT T E (dB (dChain p p' τa τb τc))) := PT.imp (pt_chain ho ho' ha hb hc (show lastMarks [op'] [c] = false from hm')) fun σ H Q h => ct_bl (fun _ _ _ => ce_chain k k') h
def dC (w : W) : DE := fun _ M Q _ => Q w M
theorem ae_C {e : Expr} {w : W} {v : V} (h : PE X e (tC v)) (r : ∀ F H, RW T F H w v) : PE X e (cE T E (dC w)) := PE.imp h fun σ H Q q => by
  obtain ⟨F, σw, M, Qw, Ew, rs, S, t, kq, kx⟩ := q
  exact kq w M v H F .refl (r F H) S t
def dVar (i : Nat) : DE := fun σ M Q _ => ∃ w, σ[i]? = some (some w) ∧ Q w M
theorem ae_var {e : Expr} {i : Nat} (h : PE X e (tVar i)) : PE X e (cE T E (dVar i)) := PE.imp h fun σ H Q q => by
  obtain ⟨F, σw, M, Qw, Ew, rs, S, ⟨w, h1, q⟩, kq, kx⟩ := q
  obtain ⟨v, h2, r⟩ := rs.at_ i w h1
  exact ⟨v, h2, kq w M v H F .refl r S q⟩
def dNil : DA := fun _ M Q _ => Q [] M
def dCons (τ : DE) (ρ : DA) : DA := fun σ M Q Ex => τ σ M (fun x M1 => ρ σ M1 (fun xs M2 => Q (x :: xs) M2) Ex) Ex
theorem aa_nil : PA X [] (cA T E dNil) := PA.imp pa_nil fun σ H Q q => by
  obtain ⟨F, σw, M, Qw, Ew, rs, S, t, kq, kx⟩ := q
  exact kq [] M [] H F .refl .nil S t
theorem aa_cons {e : Expr} {es : List Expr} {τ : DE} {ρ : DA} (ha : PE X e (cE T E τ)) (hr : PA X es (cA T E ρ)) (hs : noStar e = true) : PA X (e :: es) (cA T E (dCons τ ρ)) := PA.imp (pa_cons ha hr (star_cons hs)) fun σ H Q q => by
  obtain ⟨F, σw, M, Qw, Ew, rs, S, t, kq, kx⟩ := q
  refine ⟨F, σw, M, _, Ew, rs, S, t, fun x M1 v H1 F1 e1 r1 S1 t1 => ?_, kx⟩
  refine ⟨F1, σw, M1, _, Ew, rs.ext e1, S1, t1, fun xs M2 vs H2 F2 e2 r2 S2 t2 => ?_, kx.ext e1⟩
  exact kq _ _ _ _ _ (e1.trans e2) (.cons (r1.ext e2) r2) S2 t2
def dTup (ρ : DA) : DE := fun σ M Q Ex => ρ σ M (fun ws M1 => ws.length ≤ sizeLine ∧ Q (.tup ws) M1) Ex
def dLst (own : Bool) (ρ : DA) : DE := fun σ M Q Ex => ρ σ M (fun ws M1 => ws.length ≤ sizeLine ∧ newL own ws M1 Q) Ex
theorem KQ.of {F : Addr → Prop} {H : Hp} {Qw : QW} {Q : VK} {F1 : Addr → Prop} {H1 : Hp} (kq : ∀ w M' v H' F', Ext F H F' H' → RW T F' H' w v → Sim T F' H' M' → Qw w M' → Q v H') (e : Ext F H F1 H1) : KQ T F1 H1 Qw Q :=
  fun w M' v H' F' e' r S q => kq w M' v H' F' (e.trans e') r S q
theorem ae_tup {es : List Expr} {ρ : DA} {x1 : Nat} {pos : Pos} (h : PA X es (cA T E ρ)) : PE X (.Tuple es x1 pos) (cE T E (dTup ρ)) := PE.imp (pe_tup h) fun σ H Q q => by
  obtain ⟨F, σw, M, Qw, Ew, rs, S, t, kq, kx⟩ := q
  refine ⟨F, σw, M, _, Ew, rs, S, t, fun ws M1 vs H1 F1 e1 r1 S1 t1 => ⟨by rw [← r1.length]; exact t1.1, (KQ.of kq e1).newT S1 r1 t1.2⟩, kx⟩
theorem ae_lst {own : Bool} {es : List Expr} {ρ : DA} {pos : Pos} (h : PA X es (cA T E ρ)) : PE X (.List es pos) (cE T E (dLst own ρ)) := PE.imp (pe_lst h) fun σ H Q q => by
  obtain ⟨F, σw, M, Qw, Ew, rs, S, t, kq, kx⟩ := q
  refine ⟨F, σw, M, _, Ew, rs, S, t, fun ws M1 vs H1 F1 e1 r1 S1 t1 => ⟨by rw [← r1.length]; exact t1.1, (KQ.of kq e1).newL S1 r1 t1.2⟩, kx⟩
def negW : W → Mh → QW → Prop
  | .int i, M, Q => Q (.int (-i)) M
  | _, _, _ => False
def d1 (p : W → Mh → QW → Prop) (τ : DE) : DE := fun σ M Q Ex => τ σ M (fun x M1 => p x M1 Q) Ex
theorem ae_neg {a : Expr} {τ : DE} {pos : Pos} (h : PE X a (cE T E τ)) : PE X (.UnaryOp .USub a pos) (cE T E (d1 negW τ)) := PE.imp (pe_un un_neg h) fun σ H Q q => by
  obtain ⟨F, σw, M, Qw, Ew, rs, S, t, kq, kx⟩ := q
  refine ⟨F, σw, M, _, Ew, rs, S, t, fun x M1 v H1 F1 e1 r1 S1 t1 => ?_, kx⟩
  cases x with
  | int i => rw [RW.int_.mp r1]; exact ⟨i, rfl, kq _ _ _ _ _ e1 (RW.int_.mpr rfl) S1 t1⟩
  | _ => exact t1.elim
def dNotV (τ : DE) : DE := fun σ M Q Ex => τ σ M (fun x M1 => ∃ b, x = .bl b ∧ Q (.bl (!b)) M1) Ex
theorem ae_notV {a : Expr} {τ : DE} {pos : Pos} (h : PE X a (cE T E τ)) : PE X (.UnaryOp .Not a pos) (cE T E (dNotV τ)) := PE.imp (pe_not h) fun σ H Q q => by
  obtain ⟨F, σw, M, Qw, Ew, rs, S, t, kq, kx⟩ := q
  refine ⟨F, σw, M, _, Ew, rs, S, t, fun x M1 v H1 F1 e1 r1 S1 ⟨b, eb, q⟩ => ?_, kx⟩
  subst eb
  exact ⟨b, RW.bl_.mp r1, kq _ _ _ _ _ e1 (RW.bl_.mpr rfl) S1 q⟩
def dJoinV (isAnd : Bool) (τa τb : DE) : DE := fun σ M Q Ex => τa σ M (fun x M1 => ∃ b, x = .bl b ∧ if b = isAnd then τb σ M1 Q Ex else Q (.bl b) M1) Ex
theorem ae_andV {a b : Expr} {rest : List Expr} {τa τb : DE} {pos : Pos} (ha : PE X a (cE T E τa)) (hb : PE X (.BoolOp .And (b :: rest) pos) (cE T E τb)) : PE X (.BoolOp .And (a :: b :: rest) pos) (cE T E (dJoinV true τa τb)) := PE.imp (pe_and ha hb) fun σ H Q q => by
  obtain ⟨F, σw, M, Qw, Ew, rs, S, t, kq, kx⟩ := q
  refine ⟨F, σw, M, _, Ew, rs, S, t, fun x M1 v H1 F1 e1 r1 S1 ⟨b, eb, q⟩ => ?_, kx⟩
  subst eb
  refine ⟨b, RW.bl_.mp r1, ?_⟩
  cases b with
  | true =>
    rw [if_pos rfl] at q ⊢
    exact ⟨F1, σw, M1, Qw, Ew, rs.ext e1, S1, q, KQ.of kq e1, kx.ext e1⟩
  | false =>
    rw [if_neg Bool.false_ne_true] at q ⊢
    exact kq _ _ _ _ _ e1 (RW.bl_.mpr rfl) S1 q
theorem ae_orV {a b : Expr} {rest : List Expr} {τa τb : DE} {pos : Pos} (ha : PE X a (cE T E τa)) (hb : PE X (.BoolOp .Or (b :: rest) pos) (cE T E τb)) : PE X (.BoolOp .Or (a :: b :: rest) pos) (cE T E (dJoinV false τa τb)) := PE.imp (pe_or ha hb) fun σ H Q q => by
  obtain ⟨F, σw, M, Qw, Ew, rs, S, t, kq, kx⟩ := q
  refine ⟨F, σw, M, _, Ew, rs, S, t, fun x M1 v H1 F1 e1 r1 S1 ⟨b, eb, q⟩ => ?_, kx⟩
  subst eb
  refine ⟨b, RW.bl_.mp r1, ?_⟩
  cases b with
  | true =>
    rw [if_neg (by decide)] at q
    rw [if_pos rfl]
    exact kq _ _ _ _ _ e1 (RW.bl_.mpr rfl) S1 q
  | false =>
    rw [if_pos rfl] at q
    rw [if_neg Bool.false_ne_true]
    exact ⟨F1, σw, M1, Qw, Ew, rs.ext e1, S1, q, KQ.of kq e1, kx.ext e1⟩
def dNotT (τ : DT) : DT := fun σ M Q Ex => τ σ M (fun b M1 => Q (!b) M1) Ex
def dJoinT (isAnd : Bool) (τa τb : DT) : DT := fun σ M Q Ex => τa σ M (fun b M1 => if b = isAnd then τb σ M1 Q Ex else Q b M1) Ex
def dTru (τ : DE) : DT := fun σ M Q Ex => τ σ M (fun x M1 => ∃ b, truW M1 x b ∧ Q b M1) Ex
theorem at_not {a : Expr} {τ : DT} {pos : Pos} (h : PT X a (cT T E τ)) : PT X (.UnaryOp .Not a pos) (cT T E (dNotT τ)) := PT.imp (pt_not h) fun σ H Q q => by
  obtain ⟨F, σw, M, Qw, Ew, rs, S, t, kq, kx⟩ := q
  exact ⟨F, σw, M, _, Ew, rs, S, t, fun b M1 H1 F1 e1 S1 q => kq _ _ _ _ e1 S1 q, kx⟩
theorem aw_and {a b : Expr} {rest : List Expr} {τa τb : DT} {pos : Pos} (ha : PT X a (cT T E τa)) (hb : L2.PW X (.BoolOp .And (b :: rest) pos) (cT T E τb)) : L2.PW X (.BoolOp .And (a :: b :: rest) pos) (cT T E (dJoinT true τa τb)) := PW.imp (pw_and ha hb) fun σ H Q q => by
  obtain ⟨F, σw, M, Qw, Ew, rs, S, t, kq, kx⟩ := q
  refine ⟨F, σw, M, _, Ew, rs, S, t, fun b M1 H1 F1 e1 S1 q => ?_, kx⟩
  cases b with
  | true =>
    rw [if_pos rfl] at q ⊢
    exact ⟨F1, σw, M1, Qw, Ew, rs.ext e1, S1, q, fun c M2 H2 F2 e2 S2 q2 => kq _ _ _ _ (e1.trans e2) S2 q2, kx.ext e1⟩
  | false =>
    rw [if_neg Bool.false_ne_true] at q ⊢
    exact kq _ _ _ _ e1 S1 q
theorem aw_or {a b : Expr} {rest : List Expr} {τa τb : DT} {pos : Pos} (ha : PT X a (cT T E τa)) (hb : L2.PW X (.BoolOp .Or (b :: rest) pos) (cT T E τb)) : L2.PW X (.BoolOp .Or (a :: b :: rest) pos) (cT T E (dJoinT false τa τb)) := PW.imp (pw_or ha hb) fun σ H Q q => by
  obtain ⟨F, σw, M, Qw, Ew, rs, S, t, kq, kx⟩ := q
  refine ⟨F, σw, M, _, Ew, rs, S, t, fun b M1 H1 F1 e1 S1 q => ?_, kx⟩
  cases b with
  | true =>
    rw [if_neg (by decide)] at q
    rw [if_pos rfl]
    exact kq _ _ _ _ e1 S1 q
  | false =>
    rw [if_pos rfl] at q
    rw [if_neg Bool.false_ne_true]
    exact ⟨F1, σw, M1, Qw, Ew, rs.ext e1, S1, q, fun c M2 H2 F2 e2 S2 q2 => kq _ _ _ _ (e1.trans e2) S2 q2, kx.ext e1⟩
theorem at_tru {a : Expr} {τ : DE} (hK : X.K = T.K) (h : PE X a (cE T E τ)) (hp : plainTest a = true) : PT X a (cT T E (dTru τ)) := PT.imp (pt_truth h (test_of hp)) fun σ H Q q => by
  obtain ⟨F, σw, M, Qw, Ew, rs, S, t, kq, kx⟩ := q
  refine ⟨F, σw, M, _, Ew, rs, S, t, fun x M1 v H1 F1 e1 r1 S1 ⟨b, tb, q⟩ => ⟨b, ?_, kq _ _ _ _ e1 S1 q⟩, kx⟩
  rw [hK]
  exact tru_w S1 r1 tb
def dIte (t : DT) (τa τb : DE) : DE := fun σ M Q Ex => t σ M (fun b M1 => if b = true then τa σ M1 Q Ex else τb σ M1 Q Ex) Ex
theorem ae_ite {c a b : Expr} {t : DT} {τa τb : DE} {pos : Pos} (hc : PT X c (cT T E t)) (ha : PE X a (cE T E τa)) (hb : PE X b (cE T E τb)) : PE X (.IfExp c a b pos) (cE T E (dIte t τa τb)) := PE.imp (pe_ifExp hc ha hb) fun σ H Q q => by
  obtain ⟨F, σw, M, Qw, Ew, rs, S, t, kq, kx⟩ := q
  refine ⟨F, σw, M, _, Ew, rs, S, t, fun b M1 H1 F1 e1 S1 q => ?_, kx⟩
  cases b with
  | true =>
    rw [if_pos rfl] at q ⊢
    exact ⟨F1, σw, M1, Qw, Ew, rs.ext e1, S1, q, KQ.of kq e1, kx.ext e1⟩
  | false =>
    rw [if_neg Bool.false_ne_true] at q ⊢
    exact ⟨F1, σw, M1, Qw, Ew, rs.ext e1, S1, q, KQ.of kq e1, kx.ext e1⟩
theorem ae_idx {a b : Expr} {τa τb : DE} {pos : Pos} (hK : X.K = T.K) (ha : PE X a (cE T E τa)) (hb : PE X b (cE T E τb)) (hs : plainIx b = true) : PE X (.Subscript a b pos) (cE T E (d2 idxW τa τb)) :=
  PE.imp (pe_ix ix_seq ha hb (ix_of hs)) fun σ H Q h => by rw [hK]; exact ce_bin ok_idx h
abbrev DO := Sw → Mh → (Option Int → Mh → Prop) → QX → Prop
def cO (T : Tb) (E : XK) (τ : DO) : TO := fun σ H Q => ∃ F σw M Qw Ew, RS T F H σw σ ∧ Sim T F H M ∧ τ σw M Qw Ew ∧
  (∀ o M' H' F', Ext F H F' H' → Sim T F' H' M' → Qw o M' → Q o H') ∧ ExK T E F H Ew
def dNoPart : DO := fun _ M Q _ => Q none M
def dPart (τ : DE) : DO := fun σ M Q Ex => τ σ M (fun x M1 => ∃ i, x = .int i ∧ Q (some i) M1) Ex
theorem PO.imp {e : Option Expr} {t t' : TO} (h : PO X e t) (k : ∀ σ H Q, t' σ H Q → t σ H Q) : PO X e t' := ⟨fun pins s σ H Q I q => h.run pins s σ H Q I (k _ _ _ q)⟩
theorem ao_none : PO X none (cO T E dNoPart) := PO.imp po_none fun σ H Q q => by
  obtain ⟨F, σw, M, Qw, Ew, rs, S, t, kq, kx⟩ := q
  exact kq _ _ _ _ .refl S t
theorem ao_some {e : Expr} {τ : DE} (h : PE X e (cE T E τ)) : PO X (some e) (cO T E (dPart τ)) := PO.imp (po_some h) fun σ H Q q => by
  obtain ⟨F, σw, M, Qw, Ew, rs, S, t, kq, kx⟩ := q
  refine ⟨F, σw, M, _, Ew, rs, S, t, fun x M1 v H1 F1 e1 r1 S1 ⟨i, ei, q⟩ => ?_, kx⟩
  subst ei
  exact ⟨i, RW.int_.mp r1, kq _ _ _ _ e1 S1 q⟩
def dSlice (own : Bool) (τ : DE) (lo hi : DO) : DE := fun σ M Q Ex => τ σ M (fun x M1 => lo σ M1 (fun l M2 => hi σ M2 (fun u M3 => sliceW own x l u M3 Q) Ex) Ex) Ex
theorem ae_slice {own : Bool} {a : Expr} {lo hi : Option Expr} {τ : DE} {tl th : DO} {p2 pos : Pos} (hK : X.K = T.K) (ha : PE X a (cE T E τ)) (hl : PO X lo (cO T E tl)) (hh : PO X hi (cO T E th)) :
    PE X (.Subscript a (.Slice lo hi none p2) pos) (cE T E (dSlice own τ tl th)) := PE.imp (pe_slice sl_V ha hl hh) fun σ H Q q => by
  rw [hK]
  obtain ⟨F, σw, M, Qw, Ew, rs, S, t, kq, kx⟩ := q
  refine ⟨F, σw, M, _, Ew, rs, S, t, fun x M1 v H1 F1 e1 r1 S1 q => ?_, kx⟩
  refine ⟨F1, σw, M1, _, Ew, rs.ext e1, S1, q, fun l M2 H2 F2 e2 S2 q => ?_, kx.ext e1⟩
  refine ⟨F2, σw, M2, _, Ew, (rs.ext e1).ext e2, S2, q, fun u M3 H3 F3 e3 S3 q => ?_, (kx.ext e1).ext e2⟩
  exact ok_slice S3 ((r1.ext e2).ext e3) q (KQ.of kq ((e1.trans e2).trans e3))
def dN (p : List W → Mh → QW → Prop) (ρ : DA) : DE := fun σ M Q Ex => ρ σ M (fun ws M1 => p ws M1 Q) Ex
theorem ce_n {ρ : DA} {r : List V → Hp → VK → Prop} {p : List W → Mh → QW → Prop} (k : OkN T r p) {σ : L2.St} {H : Hp} {Q : VK} (h : cE T E (dN p ρ) σ H Q) : tCB r (cA T E ρ) σ H Q := by
  obtain ⟨F, σw, M, Qw, Ew, rs, S, t, kq, kx⟩ := h
  exact ⟨F, σw, M, _, Ew, rs, S, t, fun ws M1 vs H1 F1 e1 r1 S1 q => k F1 H1 M1 ws vs Qw Q S1 r1 q (KQ.of kq e1), kx⟩
theorem ae_blt {own : Bool} {b : BI} {e : Expr} {es : List Expr} {ρ : DA} {p pos : Pos} (hK : X.K = T.K) (hc : X.calm = true) (hg : Gl X b.name) (hm : X.mg b.name = none) (ha : PA X (e :: es) (cA T E ρ)) (hs : (e :: es).all noStar = true) :
    PE X (.Call (.Name b.name p) (e :: es) [] pos) (cE T E (dN (b.w own) ρ)) := by
  rw [List.all_cons, Bool.and_eq_true] at hs
  have hb := b.boot
  have hn := b.names
  have hR : CallR X b.val (b.r T.K) := by rw [← hK]; exact b.ok hc
  have key : PE X (.Call (.Name b.name p) (e :: es) [] pos) (tCB (b.r T.K) (cA T E ρ)) := by
    cases b <;> first
      | exact pe_callB hR hg hm hb ha hn.1 hn.2 (star_cons hs.1) (star_any hs.2)
      | exact pe_callTy hR hg hm hb ha hn.1 hn.2 (star_cons hs.1) (star_any hs.2)
  exact PE.imp key fun σ H Q h => ce_n b.okN h
def dBM (own : Bool) (b : BM) (τ : DE) (ρ : DA) : DE := fun σ M Q Ex => τ σ M (fun x M1 => b.recv M1 x ∧ ρ σ M1 (fun ws M2 => b.w own x ws M2 Q) Ex) Ex
theorem ae_bm {own : Bool} {b : BM} {o e : Expr} {es : List Expr} {τ : DE} {ρ : DA} {apos pos : Pos} (hK : X.K = T.K) (ho : PE X o (cE T E τ)) (ha : PA X (e :: es) (cA T E ρ)) (hs : (e :: es).all noStar = true) (hb : plainBase o = true) (hl : (apos.endLine == pos.line) = true) (h30 : (e :: es).length < 29) :
    PE X (.Call (.Attribute o b.name apos) (e :: es) [] pos) (cE T E (dBM own b τ ρ)) := by
  have hs' := hs
  rw [List.all_cons, Bool.and_eq_true] at hs
  have hR : MtR X b.id (b.r T.K) := by rw [← hK]; exact b.ok
  refine PE.imp (pe_bm b.plain b.slot b.ty hR ho ha (base_of hb) ?_ hl (star_cons hs.1) (star_any hs.2)) fun σ H Q q => ?_
  · rw [star_every hs']
    have : decide ((e :: es).length + ([] : List Keyword).length + (if ([] : List Keyword).isEmpty then 0 else 1) < 30) = true := decide_eq_true (by simp at h30 ⊢; omega)
    rw [this]
    rfl
  · rw [hK]
    obtain ⟨F, σw, M, Qw, Ew, rs, S, t, kq, kx⟩ := q
    refine ⟨F, σw, M, _, Ew, rs, S, t, fun x M1 v H1 F1 e1 r1 S1 ⟨q0, q⟩ => ⟨BM.recv_ok S1 r1 q0, ?_⟩, kx⟩
    exact ⟨F1, σw, M1, _, Ew, rs.ext e1, S1, q, fun ws M2 vs H2 F2 e2 r2 S2 q => b.okM F2 H2 M2 x ws v vs Qw Q S2 (r1.ext e2) r2 q (KQ.of kq (e1.trans e2)), kx.ext e1⟩
theorem ae_bm0 {own : Bool} {b : BM} {o : Expr} {τ : DE} {apos pos : Pos} (hK : X.K = T.K) (ho : PE X o (cE T E τ)) (hb : plainBase o = true) (hl : (apos.endLine == pos.line) = true) :
    PE X (.Call (.Attribute o b.name apos) [] [] pos) (cE T E (dBM own b τ dNil)) := by
  have hR : MtR X b.id (b.r T.K) := by rw [← hK]; exact b.ok
  refine PE.imp (pe_bm0 b.plain b.slot b.ty hR ho (base_of hb) hl) fun σ H Q q => ?_
  rw [hK]
  obtain ⟨F, σw, M, Qw, Ew, rs, S, t, kq, kx⟩ := q
  refine ⟨F, σw, M, _, Ew, rs, S, t, fun x M1 v H1 F1 e1 r1 S1 ⟨q0, q⟩ => ⟨BM.recv_ok S1 r1 q0, ?_⟩, kx⟩
  exact b.okM F1 H1 M1 x [] v [] Qw Q S1 r1 .nil q (KQ.of kq e1)
end WL
namespace WL
open PySem PySem.Spec PyProof.Rows L2
variable {T : Tb} {X : Cx} {E : XK}

def FnF (T : Tb) (X : Cx) (n : Nat) (x : Str) (p : Wp) : Prop := ∃ f fd ps, X.mg x = some (.ref f) ∧ PySem.W.keepIn X.K (.ref f) = true ∧ Binds X.K fd ps [] ∧ FnOk X.prog X.w X.K X.mg X.base (L2.CX X.prog X.w) n f fd ps (cP T p)
def dCall (p : Wp) (ρ : DA) : DE := fun σ M Q Ex => ρ σ M (fun ws M1 => p ws M1 Q Ex) Ex
theorem ce_call {p : Wp} {ρ : DA} {σ : L2.St} {H : Hp} {Q : VK} (q : cE T E (dCall p ρ) σ H Q) : tCall (cP T p) [] E (cA T E ρ) σ H Q := by
  obtain ⟨F, σw, M, Qw, Ew, rs, S, t, kq, kx⟩ := q
  refine ⟨F, σw, M, _, Ew, rs, S, t, fun ws M1 vs H1 F1 e1 r1 S1 q => ?_, kx⟩
  show cP T p (vs ++ []) H1 Q E
  rw [List.append_nil]
  exact ⟨F1, ws, M1, Qw, Ew, r1, S1, q, KQ.of kq e1, kx.ext e1⟩
theorem ae_call {n : Nat} {x : Str} {p : Wp} {e : Expr} {es : List Expr} {ρ : DA} {q pos : Pos} (h : FnF T X n x p) (hr : Room n X.A) (hx : Passes (L2.CX X.prog X.w) X E) (hg : Gl X x) (hn : okName x = true) (ha : PA X (e :: es) (cA T E ρ)) (hs : (e :: es).all noStar = true) :
    PE X (.Call (.Name x q) (e :: es) [] pos) (cE T E (dCall p ρ)) := by
  obtain ⟨f, fd, ps, hm, hk, hb, F⟩ := h
  rw [List.all_cons, Bool.and_eq_true] at hs
  exact PE.imp (pe_call F hr hg hm hk hb .nil hx ha (okName_of hn).1 (star_cons hs.1) (star_any hs.2)) fun σ H Q q => ce_call q
theorem ae_call0 {n : Nat} {x : Str} {p : Wp} {q pos : Pos} (h : FnF T X n x p) (hr : Room n X.A) (hx : Passes (L2.CX X.prog X.w) X E) (hg : Gl X x) (hn : okName x = true) :
    PE X (.Call (.Name x q) [] [] pos) (cE T E (dCall p dNil)) := by
  obtain ⟨f, fd, ps, hm, hk, hb, F⟩ := h
  refine PE.imp (pe_call0 F hr hg hm hk hb .nil hx (okName_of hn).1) fun σ H Q q => ?_
  obtain ⟨F, σw, M, Qw, Ew, rs, S, t, kq, kx⟩ := q
  exact ⟨F, [], M, Qw, Ew, .nil, S, t, kq, kx⟩

def insW (M : Mh) : W → Option (Nat × List Str)
  | .obj c ns _ => some (c, ns)
  | .ref a => match M a with
    | some (.ins c fs) => some (c, fs.map (·.1))
    | _ => none
  | _ => none
def lookN : List Str → List W → Str → Option W
  | n :: ns, w :: ws, f => if f = n then some w else lookN ns ws f
  | _, _, _ => none
def lookF : List (Str × W) → Str → Option W
  | (n, w) :: fs, f => if f = n then some w else lookF fs f
  | [], _ => none
def fldW (M : Mh) : W → Str → Option W
  | .obj _ ns ws, f => lookN ns ws f
  | .ref a, f => match M a with
    | some (.ins _ fs) => lookF fs f
    | _ => none
  | _, _ => none
section
variable {F : Addr → Prop} {H : Hp} {M : Mh}
theorem lookup_cons' {α : Type} (f n : Str) (v : α) (r : List (Str × α)) : ((n, v) :: r).lookup f = if f = n then some v else r.lookup f := by
  by_cases e : f = n
  · subst e; rw [if_pos rfl]; simp [List.lookup]
  · rw [if_neg e]
    have : (f == n) = false := beq_eq_false_iff_ne.mpr e
    simp [List.lookup, this]
theorem RF.names : ∀ {fs : List (Str × W)} {us : List (Str × V)}, RF T F H fs us → fs.map (·.1) = us.map (·.1)
  | [], _, h => by rw [show _ = _ from h]; rfl
  | (n, w) :: fs, _, h => by
    obtain ⟨v, r, rfl, _, h2⟩ := h
    rw [List.map_cons, List.map_cons, RF.names h2]
theorem RF.look : ∀ {fs : List (Str × W)} {us : List (Str × V)} {f : Str} {w : W}, RF T F H fs us → lookF fs f = some w → ∃ v, us.lookup f = some v ∧ RW T F H w v
  | [], _, _, _, _, e => by cases e
  | (n, w) :: fs, _, f, x, h, e => by
    obtain ⟨v, r, rfl, h1, h2⟩ := h
    rw [lookup_cons']
    unfold lookF at e
    by_cases q : f = n
    · rw [if_pos q] at e ⊢; cases e; exact ⟨v, rfl, h1⟩
    · rw [if_neg q] at e ⊢; exact RF.look h2 e
theorem RWs.look : ∀ {us : List (Str × V)} {ws : List W} {f : Str} {w : W}, RWs T F H ws (us.map (·.2)) → lookN (us.map (·.1)) ws f = some w → ∃ v, us.lookup f = some v ∧ RW T F H w v
  | [], _, _, _, _, e => by cases e
  | (n, v) :: us, ws, f, x, h, e => by
    cases ws with
    | nil => simp [lookN] at e
    | cons w ws =>
      obtain ⟨v', r, e1, h1, h2⟩ := RWs.cons_.mp h
      rw [List.map_cons] at e1
      injection e1 with e1 e2
      subst e1 e2
      rw [lookup_cons']
      rw [List.map_cons] at e
      unfold lookN at e
      by_cases q : f = n
      · rw [if_pos q] at e ⊢; cases e; exact ⟨_, rfl, h1⟩
      · rw [if_neg q] at e ⊢; exact RWs.look h2 e
theorem lookup_none {f : Str} : ∀ {us : List (Str × V)}, f ∉ us.map (·.1) → us.lookup f = none
  | [], _ => rfl
  | (n, v) :: us, h => by
    rw [lookup_cons', if_neg (fun e => h (by rw [e]; exact List.mem_cons_self ..))]
    exact lookup_none fun z => h (List.mem_cons_of_mem _ z)
theorem insW_ok (S : Sim T F H M) {x : W} {v : V} {c : Nat} {ns : List Str} (r : RW T F H x v) (h : insW M x = some (c, ns)) : ∃ a dx us, v = .ref a ∧ H a = some (.ins (T.cls c) dx us) ∧ ns = us.map (·.1) := by
  cases x with
  | obj c' ns' ws =>
    cases h
    obtain ⟨a, dx, us, rfl, _, e, en, _⟩ := RW.obj_.mp r
    exact ⟨a, dx, us, rfl, e, en⟩
  | ref a =>
    unfold insW at h
    simp only at h
    cases e : M a with
    | none => rw [e] at h; cases h
    | some o => cases o with
      | ins c' fs =>
        rw [e] at h; cases h
        obtain ⟨_, ho, e1, dx, us, rfl, r1⟩ := S.ob a _ e
        exact ⟨a, dx, us, RW.ref_.mp r, e1, r1.names⟩
      | lst _ => rw [e] at h; cases h
      | dk _ => rw [e] at h; cases h
      | dt _ => rw [e] at h; cases h
      | lk _ => rw [e] at h; cases h
      | lkt _ => rw [e] at h; cases h
  | _ => cases h
theorem fldW_ok (S : Sim T F H M) {x : W} {v : V} {f : Str} {w : W} (r : RW T F H x v) (h : fldW M x f = some w) : ∃ a c dx us u, v = .ref a ∧ H a = some (.ins (T.cls c) dx us) ∧ us.lookup f = some u ∧ RW T F H w u := by
  cases x with
  | obj c' ns' ws =>
    obtain ⟨a, dx, us, rfl, _, e, en, r1⟩ := RW.obj_.mp r
    subst en
    obtain ⟨u, h1, h2⟩ := RWs.look r1 h
    exact ⟨a, c', dx, us, u, rfl, e, h1, h2⟩
  | ref a =>
    unfold fldW at h
    simp only at h
    cases e : M a with
    | none => rw [e] at h; cases h
    | some o => cases o with
      | ins c' fs =>
        rw [e] at h
        obtain ⟨_, ho, e1, dx, us, rfl, r1⟩ := S.ob a _ e
        obtain ⟨u, h1, h2⟩ := RF.look r1 h
        exact ⟨a, c', dx, us, u, RW.ref_.mp r, e1, h1, h2⟩
      | lst _ => rw [e] at h; cases h
      | dk _ => rw [e] at h; cases h
      | dt _ => rw [e] at h; cases h
      | lk _ => rw [e] at h; cases h
      | lkt _ => rw [e] at h; cases h
  | _ => cases h
end
structure ClF (T : Tb) (X : Cx) (fields : List Str) : Prop where
  cl : ∀ c, Cls X.K (T.cls c)
  no : ∀ c, ∀ f ∈ fields, NoAttr X.K (T.cls c) f
def dAttr (τ : DE) (f : Str) : DE := fun σ M Q Ex => τ σ M (fun x M1 => ∃ w, fldW M1 x f = some w ∧ Q w M1) Ex
theorem ae_attr {fields : List Str} {o : Expr} {f : Str} {pos : Pos} {τ : DE} (hc : ClF T X fields) (hf : f ∈ fields) (ho : PE X o (cE T E τ)) (hb : plainBase o = true) : PE X (.Attribute o f pos) (cE T E (dAttr τ f)) := PE.imp (pe_fld ho (base_of hb)) fun σ H Q q => by
  obtain ⟨F, σw, M, Qw, Ew, rs, S, t, kq, kx⟩ := q
  refine ⟨F, σw, M, _, Ew, rs, S, t, fun x M1 v H1 F1 e1 r1 S1 ⟨w, h1, q⟩ => ?_, kx⟩
  obtain ⟨a, c, dx, us, u, rfl, h2, h3, h4⟩ := fldW_ok S1 r1 h1
  exact ⟨a, T.cls c, dx, us, u, rfl, h2, hc.cl c, hc.no c f hf, h3, kq _ _ _ _ _ e1 h4 S1 q⟩
def MeF (T : Tb) (X : Cx) (n : Nat) (c : Nat) (m : Str) (p : Wp) : Prop := ∃ f fd ps, Meth X.K (T.cls c) m f ∧ Binds X.K fd ps [] ∧ FnOk X.prog X.w X.K X.mg X.base (L2.CX X.prog X.w) n f fd ps (cP T p)
def dMeth (me : Nat → Option Wp) (m : Str) (τ : DE) (ρ : DA) : DE := fun σ M Q Ex => τ σ M (fun x M1 => ∃ c ns p, insW M1 x = some (c, ns) ∧ m ∉ ns ∧ me c = some p ∧ ρ σ M1 (fun ws M2 => p (x :: ws) M2 Q Ex) Ex) Ex
theorem few_of {cpos : Pos} {es : List Expr} {env : Env} {n : Nat} (h : es.all noStar = true) (hn : n < 29) : methodCallForm n (backTo cpos (starEach es env)) (backToKw cpos (keywordEach [] env)) = true := by
  unfold methodCallForm
  have h1 : (backTo cpos (starEach es env)).all (!·.1) = true := star_every h
  rw [h1]
  have : backToKw cpos (keywordEach [] env) = [] := rfl
  rw [this]
  simp
  omega
theorem meth_ht {o : Expr} {m : Str} {apos pos : Pos} {es : List Expr} {env : Env} (hb : plainBase o = true) (hl : (apos.endLine == pos.line) = true) (hs : es.all noStar = true) (hn : es.length < 29) :
    eval (.Call (.Attribute o m apos) es [] pos) env = (do
      let ov ← eval o env
      standAt apos.atName
      let (f, first) ← holding [ov] (getMethod ov m (do return (← importBound o env).getD true))
      callWith pos f first (backTo pos (starEach es env)) (backToKw pos (keywordEach [] env))) := by
  have e : eval (.Call (.Attribute o m apos) es [] pos) env = (do
      let ov ← attributeBase o m env (eval o env)
      standAt apos.atName
      methodCall o m apos pos env ov (es.length + 0) (backTo pos (starEach es env)) (backToKw pos (keywordEach [] env))) := rfl
  rw [e, base_of hb]
  unfold methodCall methodCallPos calleeOf
  rw [few_of (n := es.length + 0) hs hn, hl]
  rfl
theorem ae_meth {n : Nat} {fields : List Str} {me : Nat → Option Wp} {m : Str} {o e : Expr} {es : List Expr} {τ : DE} {ρ : DA} {apos pos : Pos} (hc : ClF T X fields) (hm : ∀ c p, me c = some p → MeF T X n c m p) (hr : Room n X.A) (hx : Passes (L2.CX X.prog X.w) X E)
    (ho : PE X o (cE T E τ)) (ha : PA X (e :: es) (cA T E ρ)) (hb : plainBase o = true) (hl : (apos.endLine == pos.line) = true) (hs : (e :: es).all noStar = true) (hn : (e :: es).length < 29) :
    PE X (.Call (.Attribute o m apos) (e :: es) [] pos) (cE T E (dMeth me m τ ρ)) := by
  refine ⟨fun pins s σ H Q I q => ?_⟩
  obtain ⟨F, σw, M, Qw, Ew, rs, S, t, kq, kx⟩ := q
  have hq : cE T E τ σ H fun v H1 => ∃ F1 x M1 c ns p, Ext F H F1 H1 ∧ RW T F1 H1 x v ∧ Sim T F1 H1 M1 ∧ insW M1 x = some (c, ns) ∧ m ∉ ns ∧ me c = some p ∧ ρ σw M1 (fun ws M2 => p (x :: ws) M2 Qw Ew) Ew :=
    ⟨F, σw, M, _, Ew, rs, S, t, fun x M1 v H1 F1 e1 r1 S1 ⟨c, ns, p, h1, h2, h3, h4⟩ => ⟨F1, x, M1, c, ns, p, e1, r1, S1, h1, h2, h3, h4⟩, kx⟩
  refine PySem.W.methodCall_KW (thn (ho.run pins s σ H _ I hq) fun u s1 ⟨v, H1, I1, rx, F1, x, M1, c, ns, p, e1, r1, S1, h1, h2, h3, h4⟩ => ?_) (meth_ht hb hl hs hn)
  obtain ⟨f, fd, ps, hme, hbi, Fk⟩ := hm c p h3
  obtain ⟨a, dx, us, rfl, h5, h6⟩ := insW_ok S1 r1 h1
  subst h6
  obtain rfl : u = Value.ref a := rx
  refine getmeth_ok I1 h5 (hc.cl c) hme (lookup_none h2) ?_
  rw [List.all_cons, Bool.and_eq_true] at hs
  have hA : cA T E ρ σ H1 fun vs H2 => ∃ F2 ws M2, Ext F1 H1 F2 H2 ∧ RWs T F2 H2 ws vs ∧ Sim T F2 H2 M2 ∧ p (x :: ws) M2 Qw Ew :=
    ⟨F1, σw, M1, _, Ew, rs.ext e1, S1, h4, fun ws M2 vs H2 F2 e2 r2 S2 q => ⟨F2, ws, M2, e2, r2, S2, q⟩, kx.ext e1⟩
  refine PySem.W.callWith_K (first := [.ref a]) (h₀ := X.base) I.ok.mod.kin hme.kp (thn (ha.run pos pins s1 σ H1 _ I1 hA) fun us' s2 ⟨vs, H2, I2, r, F2, ws, M2, e2, r2, S2, q2⟩ => ⟨I2.kIn, ?_⟩) (star_cons hs.1) (star_any hs.2)
  refine run_fn (dvs := []) (ds := []) (us := .ref a :: us') (vs := .ref a :: vs) Fk hr hbi .nil hx I2 (.cons rfl r) ?_
  rw [List.append_nil]
  exact ⟨F2, x :: ws, M2, Qw, Ew, .cons (r1.ext e2) r2, S2, q2, KQ.of kq (e1.trans e2), kx.ext (e1.trans e2)⟩
theorem ae_meth0 {n : Nat} {fields : List Str} {me : Nat → Option Wp} {m : Str} {o : Expr} {τ : DE} {apos pos : Pos} (hc : ClF T X fields) (hm : ∀ c p, me c = some p → MeF T X n c m p) (hr : Room n X.A) (hx : Passes (L2.CX X.prog X.w) X E)
    (ho : PE X o (cE T E τ)) (hb : plainBase o = true) (hl : (apos.endLine == pos.line) = true) :
    PE X (.Call (.Attribute o m apos) [] [] pos) (cE T E (dMeth me m τ dNil)) := by
  refine ⟨fun pins s σ H Q I q => ?_⟩
  obtain ⟨F, σw, M, Qw, Ew, rs, S, t, kq, kx⟩ := q
  have hq : cE T E τ σ H fun v H1 => ∃ F1 x M1 c ns p, Ext F H F1 H1 ∧ RW T F1 H1 x v ∧ Sim T F1 H1 M1 ∧ insW M1 x = some (c, ns) ∧ m ∉ ns ∧ me c = some p ∧ p [x] M1 Qw Ew :=
    ⟨F, σw, M, _, Ew, rs, S, t, fun x M1 v H1 F1 e1 r1 S1 ⟨c, ns, p, h1, h2, h3, h4⟩ => ⟨F1, x, M1, c, ns, p, e1, r1, S1, h1, h2, h3, h4⟩, kx⟩
  refine PySem.W.methodCall_KW (thn (ho.run pins s σ H _ I hq) fun u s1 ⟨v, H1, I1, rx, F1, x, M1, c, ns, p, e1, r1, S1, h1, h2, h3, h4⟩ => ?_) (meth_ht hb hl (es := []) rfl (by decide))
  obtain ⟨f, fd, ps, hme, hbi, Fk⟩ := hm c p h3
  obtain ⟨a, dx, us, rfl, h5, h6⟩ := insW_ok S1 r1 h1
  subst h6
  obtain rfl : u = Value.ref a := rx
  refine getmeth_ok I1 h5 (hc.cl c) hme (lookup_none h2) ?_
  refine PySem.W.callWith_K0 (first := [.ref a]) I1.kIn hme.kp (run_fn (dvs := []) (ds := []) (us := [.ref a]) (vs := [.ref a]) Fk hr hbi .nil hx I1 (.cons rfl .nil) ?_)
  rw [List.append_nil]
  exact ⟨F1, [x], M1, Qw, Ew, .cons r1 .nil, S1, h4, KQ.of kq e1, kx.ext e1⟩
def MkF (T : Tb) (X : Cx) (n : Nat) (c : Nat) (x : Str) (p : Wp) : Prop := X.mg x = some (.ref (T.cls c)) ∧ ∃ f fd ps, Mk X.K (T.cls c) f ∧ Binds X.K fd ps [] ∧ FnOk X.prog X.w X.K X.mg X.base (L2.CX X.prog X.w) n f fd ps (cP T p)
def mdel (M : Mh) (a : Addr) : Mh := fun b => if b = a then none else M b
theorem mdel_mup {M : Mh} {a : Addr} {o : MO} (h : M a = none) : mdel (mup M a o) a = M := by
  funext b
  unfold mdel mup
  by_cases e : b = a
  · rw [if_pos e, e, h]
  · rw [if_neg e, if_neg e]
def insQ (own : Bool) (c : Nat) (x : Addr) (M : Mh) (Q : QW) : Prop := match own with
  | true => Q (.ref x) M
  | false => ∃ fs, M x = some (.ins c fs) ∧ Q (.obj c (fs.map (·.1)) (fs.map (·.2))) (mdel M x)
def dNew (own : Bool) (c : Nat) (p : Wp) (ρ : DA) : DE := fun σ M Q Ex => ρ σ M (fun ws M1 => ∀ x, M1 x = none → p (.ref x :: ws) (mup M1 x (.ins c [])) (fun v M2 => v = .non ∧ insQ own c x M2 Q) Ex) Ex
theorem RF.vals {F : Addr → Prop} {H : Hp} : ∀ {fs : List (Str × W)} {us : List (Str × V)}, RF T F H fs us → RWs T F H (fs.map (·.2)) (us.map (·.2))
  | [], _, h => by rw [show _ = _ from h]; exact .nil
  | (n, w) :: fs, _, h => by
    obtain ⟨v, r, rfl, h1, h2⟩ := h
    exact .cons h1 (RF.vals h2)
theorem Sim.freeze {F : Addr → Prop} {H : Hp} {M : Mh} {a : Addr} {u : MO} (S : Sim T F H M) (h : M a = some u) (hu : notLk u = true) : Ext F H (fun b => F b ∨ b = a) H ∧ Sim T (fun b => F b ∨ b = a) H (mdel M a) := by
  have e : Ext F H (fun b => F b ∨ b = a) H := ⟨fun b f => ⟨.inl f, rfl⟩, fun _ _ q => q, fun _ _ _ q => q⟩
  refine ⟨e, ⟨fun b o q => ?_, fun b f => ?_, S.tk⟩⟩
  · unfold mdel at q
    by_cases hb : b = a
    · rw [if_pos hb] at q; cases q
    · rw [if_neg hb] at q
      obtain ⟨nf, ho, q1, q2⟩ := S.ob b o q
      exact ⟨fun z => z.elim nf hb, ho, q1, q2.ext e⟩
  · rcases f with f | rfl
    · exact S.fz b f
    · obtain ⟨_, ho, q1, q2⟩ := S.ob b u h
      refine ⟨ho, q1, ?_⟩
      cases u with
      | lst ws => obtain ⟨vs, rfl, _⟩ := q2; trivial
      | dk ws => obtain ⟨vs, rfl, _⟩ := q2; trivial
      | dt ws => obtain ⟨vs, rfl, _⟩ := q2; trivial
      | lk ws => cases hu
      | lkt ws => cases hu
      | ins c fs => obtain ⟨dx, vs, rfl, _⟩ := q2; trivial
theorem KQ.ins {F : Addr → Prop} {H : Hp} {M : Mh} {Qw : QW} {Q : VK} {own : Bool} {c : Nat} {x : Addr} (k : KQ T F H Qw Q) (S : Sim T F H M) (q : insQ own c x M Qw) : Q (.ref x) H := by
  cases own with
  | true => exact k.now S (RW.ref_.mpr rfl) q
  | false =>
    obtain ⟨fs, h, q⟩ := q
    obtain ⟨e, S'⟩ := S.freeze h rfl
    obtain ⟨_, ho, q1, dx, us, rfl, r⟩ := S.ob x _ h
    exact k _ _ _ _ _ e (RW.obj_.mpr ⟨x, dx, us, rfl, .inr rfl, q1, r.names, (r.ext e).vals⟩) S' q
theorem Sim.newI {F : Addr → Prop} {H : Hp} {M : Mh} (S : Sim T F H M) {x dx : Addr} {c : Nat} (h1 : H x = none) (h2 : H dx = none) (ne : dx ≠ x) :
    Ext F H F (upd (upd H dx (.own x)) x (.ins (T.cls c) dx [])) ∧ Sim T F (upd (upd H dx (.own x)) x (.ins (T.cls c) dx [])) (mup M x (.ins c [])) := by
  have n1 := S.fresh h1
  have n2 := S.fresh h2
  have e1 := ext_new (o := .own x) h2 n2.2
  have S1 : Sim T F (upd H dx (.own x)) M := ⟨fun a o q => by
    obtain ⟨f, ho, q1, q2⟩ := S.ob a o q
    exact ⟨f, ho, by rw [upd_ne (m_ne q n2.1)]; exact q1, q2.ext e1⟩, fun a f => by
    obtain ⟨ho, q1, q2⟩ := S.fz a f
    exact ⟨ho, by rw [(e1.fz a f).2]; exact q1, q2⟩, S.tk.new h2⟩
  obtain ⟨e2, S2⟩ := S1.newM (p := x) (o := .ins (T.cls c) dx []) (u := .ins c []) (by rw [upd_ne (Ne.symm ne)]; exact h1) ⟨dx, [], rfl, rfl⟩
  exact ⟨e1.trans e2, S2⟩
theorem ce_new {own : Bool} {c : Nat} {p : Wp} {ρ : DA} {σ : L2.St} {H : Hp} {Q : VK} (q : cE T E (dNew own c p ρ) σ H Q) : tMake (T.cls c) (cP T p) [] E (cA T E ρ) σ H Q := by
  obtain ⟨F, σw, M, Qw, Ew, rs, S, t, kq, kx⟩ := q
  refine ⟨F, σw, M, _, Ew, rs, S, t, fun ws M1 vs H1 F1 e1 r1 S1 q => ?_, kx⟩
  intro x dx hx hdx ne
  rw [List.append_nil]
  obtain ⟨e2, S2⟩ := S1.newI (c := c) hx hdx ne
  refine ⟨F1, .ref x :: ws, _, _, Ew, .cons (RW.ref_.mpr rfl) (r1.ext e2), S2, q x (S1.fresh hx).1, fun w M2 v H2 F2 e3 r3 S3 q3 => ?_, kx.ext (e1.trans e2)⟩
  obtain ⟨ew, q3⟩ := q3
  subst ew
  exact ⟨RW.non_.mp r3, (KQ.of kq ((e1.trans e2).trans e3)).ins S3 q3⟩
theorem ae_new {n : Nat} {own : Bool} {c : Nat} {x : Str} {p : Wp} {e : Expr} {es : List Expr} {ρ : DA} {q pos : Pos} (h : MkF T X n c x p) (hr : Room (n + 1) X.A) (hx : Passes (L2.CX X.prog X.w) X E) (hg : Gl X x) (hn : okName x = true) (ha : PA X (e :: es) (cA T E ρ)) (hs : (e :: es).all noStar = true) :
    PE X (.Call (.Name x q) (e :: es) [] pos) (cE T E (dNew own c p ρ)) := by
  obtain ⟨hm, f, fd, ps, hk, hb, F⟩ := h
  rw [List.all_cons, Bool.and_eq_true] at hs
  exact PE.imp (pe_make hk F hr hg hm hb .nil hx ha (okName_of hn).1 (star_cons hs.1) (star_any hs.2)) fun σ H Q q => ce_new q
theorem ae_new0 {n : Nat} {own : Bool} {c : Nat} {x : Str} {p : Wp} {q pos : Pos} (h : MkF T X n c x p) (hr : Room (n + 1) X.A) (hx : Passes (L2.CX X.prog X.w) X E) (hg : Gl X x) (hn : okName x = true) :
    PE X (.Call (.Name x q) [] [] pos) (cE T E (dNew own c p dNil)) := by
  obtain ⟨hm, f, fd, ps, hk, hb, F⟩ := h
  refine PE.imp (pe_make0 hk F hr hg hm hb .nil hx (okName_of hn).1) fun σ H Q q => ?_
  obtain ⟨F, σw, M, Qw, Ew, rs, S, t, kq, kx⟩ := q
  intro x dx hx hdx ne
  obtain ⟨e2, S2⟩ := S.newI (c := c) hx hdx ne
  refine ⟨F, [.ref x], _, _, Ew, .cons (RW.ref_.mpr rfl) .nil, S2, t x (S.fresh hx).1, fun w M2 v H2 F2 e3 r3 S3 q3 => ?_, kx.ext e2⟩
  obtain ⟨ew, q3⟩ := q3
  subst ew
  exact ⟨RW.non_.mp r3, (KQ.of kq (e2.trans e3)).ins S3 q3⟩
end WL
namespace WL
open PySem PySem.Spec PyProof.Rows L2
variable {T : Tb} {X : Cx} {E : XK}

inductive Ty where
  | non | bl | int | str | lst | tup | dct
  deriving DecidableEq
def Ty.name : Ty → String
  | .non => "NoneType" | .bl => "bool" | .int => "int" | .str => "str" | .lst => "list" | .tup => "tuple" | .dct => "dict"
def tyW (M : Mh) : W → Option Ty
  | .non => some .non
  | .bl _ => some .bl
  | .int _ => some .int
  | .str _ => some .str
  | .tup _ => some .tup
  | .lst _ => some .lst
  | .dk _ _ => some .dct
  | .dt _ _ => some .dct
  | .ref a => match M a with
    | some (.lst _) => some .lst
    | some (.dk _) => some .dct
    | some (.dt _) => some .dct
    | _ => none
  | _ => none
def Ty.sub : Ty → Ty → Bool
  | .bl, .int => true
  | a, b => decide (a = b)
theorem Ty.kit {K : PySem.W.Frag} (a b : Ty) : PySem.W.kitOne K (.type a.name) (.type b.name) = some (a.sub b) := by
  cases a <;> cases b <;> exact kit_ty (by decide +kernel)
theorem tyW_ok {F : Addr → Prop} {H : Hp} {M : Mh} (S : Sim T F H M) {x : W} {v : V} {t : Ty} (r : RW T F H x v) (h : tyW M x = some t) : TyX T.K H v (.type t.name) := by
  cases x with
  | non => cases h; rw [RW.non_.mp r]; exact .base .non
  | bl b => cases h; rw [RW.bl_.mp r]; exact .base (.bl b)
  | int b => cases h; rw [RW.int_.mp r]; exact .base (.int b)
  | str b => cases h; rw [RW.str_.mp r]; exact .base (.str b)
  | tup ws =>
    cases h
    obtain ⟨a, vs, rfl, e, _⟩ := RW.tup_.mp r
    rcases e with (e | ⟨o, e⟩) | ⟨o, its, n, hk, hc, _⟩
    · exact .base (.tup e)
    · exact .fTuple e
    · exact .kTuple hk hc
  | lst ws =>
    cases h
    obtain ⟨a, vs, rfl, _, e, _⟩ := RW.lst_.mp r
    exact .base (.lst e)
  | dk ks ws =>
    cases h
    obtain ⟨a, kvs, rfl, _, e, _⟩ := RW.dk_.mp r
    exact .base (.dK e)
  | dt ks ws =>
    cases h
    obtain ⟨a, kvs, rfl, _, e, _⟩ := RW.dt_.mp r
    exact .base (.dT e)
  | ref a =>
    unfold tyW at h
    simp only at h
    rw [RW.ref_.mp r]
    cases e : M a with
    | none => rw [e] at h; cases h
    | some o => cases o with
      | lst ws =>
        rw [e] at h; cases h
        obtain ⟨_, vs, q, _⟩ := S.lst e
        exact .base (.lst q)
      | dk ws =>
        rw [e] at h; cases h
        obtain ⟨_, ho, q, us, rfl, _⟩ := S.ob a _ e
        exact .base (.dK q)
      | dt ws =>
        rw [e] at h; cases h
        obtain ⟨_, ho, q, us, rfl, _⟩ := S.ob a _ e
        exact .base (.dT q)
      | lk _ => rw [e] at h; cases h
      | lkt _ => rw [e] at h; cases h
      | ins _ _ => rw [e] at h; cases h
  | _ => cases h
def dIsi (t : Ty) (τ : DE) : DE := fun σ M Q Ex => τ σ M (fun x M1 => ∃ s, tyW M1 x = some s ∧ Q (.bl (s.sub t)) M1) Ex
def bltTy (X : Cx) (n : String) : Prop := Gl X (Str.ofString n) ∧ X.mg (Str.ofString n) = none
def Ty.asName : Ty → Option Str
  | .bl => some "bool" | .int => some "int" | .str => some "str" | .lst => some "list" | .tup => some "tuple" | .dct => some "dict" | .non => none
theorem Ty.boot {t : Ty} {x : Str} (h : t.asName = some x) : bootBuiltins x = some (.type t.name) := by
  cases t <;> (cases h) <;> decide +kernel
theorem Ty.okn {t : Ty} {x : Str} (h : t.asName = some x) : x ≠ "__name__" ∧ (x == ("__debug__" : Str)) = false := by
  cases t <;> (cases h) <;> exact ⟨by decide, by decide⟩
theorem ae_isi {t : Ty} {x : Str} {e : Expr} {τ : DE} {p q pos : Pos} (hK : X.K = T.K) (h1 : Gl X "isinstance") (h2 : X.mg "isinstance" = none) (hx : t.asName = some x) (h3 : Gl X x) (h4 : X.mg x = none) (he : PE X e (cE T E τ)) (hs : noStar e = true) :
    PE X (.Call (.Name "isinstance" p) [e, .Name x q] [] pos) (cE T E (dIsi t τ)) := by
  have hn := Ty.okn hx
  have hv : PE X (.Name x q) (tC (.ty t.name)) := pe_bltn h3 h4 (Ty.boot hx) rfl hn.1 hn.2
  refine PE.imp (pe_callB call_isi h1 h2 (by decide +kernel) (pa_cons he (pa_cons hv pa_nil (star_cons rfl)) (star_cons hs)) (by decide) (by decide) (star_cons hs) (star_any rfl)) fun σ H Q r => ?_
  obtain ⟨F, σw, M, Qw, Ew, rs, S, t', kq, kx⟩ := r
  refine ⟨F, σw, M, _, Ew, rs, S, t', fun y M1 v H1 F1 e1 r1 S1 ⟨s, h5, q⟩ => ?_, kx⟩
  refine ⟨v, .ty t.name, .type s.name, .type t.name, s.sub t, rfl, .ty _, ?_, s.kit t, kq _ _ _ _ _ e1 (RW.bl_.mpr rfl) S1 q⟩
  rw [hK]
  exact tyW_ok S1 r1 h5
def dIsi2 (t u : Ty) (τ : DE) : DE := fun σ M Q Ex => τ σ M (fun x M1 => ∃ s, tyW M1 x = some s ∧ Q (.bl (s.sub t || s.sub u)) M1) Ex
theorem ae_isi2 {t u : Ty} {x y : Str} {e : Expr} {τ : DE} {k : Nat} {p q q2 q3 pos : Pos} (hK : X.K = T.K) (h1 : Gl X "isinstance") (h2 : X.mg "isinstance" = none) (hx : t.asName = some x) (h3 : Gl X x) (h4 : X.mg x = none) (hy : u.asName = some y) (h5 : Gl X y) (h6 : X.mg y = none)
    (he : PE X e (cE T E τ)) (hs : noStar e = true) : PE X (.Call (.Name "isinstance" p) [e, .Tuple [.Name x q, .Name y q2] k q3] [] pos) (cE T E (dIsi2 t u τ)) := by
  have hn := Ty.okn hx
  have hn2 := Ty.okn hy
  have hv : PE X (.Name x q) (tC (.ty t.name)) := pe_bltn h3 h4 (Ty.boot hx) rfl hn.1 hn.2
  have hv2 : PE X (.Name y q2) (tC (.ty u.name)) := pe_bltn h5 h6 (Ty.boot hy) rfl hn2.1 hn2.2
  have hT := pe_tup (X := X) (x1 := k) (pos := q3) (pa_cons hv (pa_cons hv2 pa_nil (star_cons rfl)) (star_cons rfl))
  refine PE.imp (pe_callB call_isiT h1 h2 (by decide +kernel) (pa_cons he (pa_cons hT pa_nil (star_cons rfl)) (star_cons hs)) (by decide) (by decide) (star_cons hs) (star_any rfl)) fun σ H Q r => ?_
  obtain ⟨F, σw, M, Qw, Ew, rs, S, t', kq, kx⟩ := r
  refine ⟨F, σw, M, _, Ew, rs, S, t', fun z M1 v H1 F1 e1 r1 S1 ⟨s, h7, q⟩ => ?_, kx⟩
  refine ⟨by show 2 ≤ sizeLine; decide, fun tp htp => ?_⟩
  obtain ⟨e2, S2⟩ := S1.newT (vs := [.ty t.name, .ty u.name]) htp
  refine ⟨v, tp, _, .type s.name, [.type t.name, .type u.name], s.sub t || s.sub u, rfl, upd_same, .cons (.ty _) (.cons (.ty _) .nil), ?_, ?_, kq _ _ _ _ _ (e1.trans e2) (RW.bl_.mpr rfl) S2 q⟩
  · rw [hK]
    exact tyW_ok S2 (r1.ext e2) h7
  · refine kitAny_cons (s.kit t) (fun z => ?_) (fun z => by rw [z]; rfl)
    refine kitAny_cons (s.kit u) (fun z2 => ?_) (fun z2 => by rw [z2]; simp)
    rw [z, z2]
    exact kitAny_nil

def iSeqD (τ : DE) : DI := fun σ M K Ex => τ σ M (fun x M1 => ∃ us G, walkW M1 x us G ∧ K us G M1) Ex
theorem ai_seq {tg e : Expr} {τ : DE} (hK : X.K = T.K) (he : PE X e (cE T E τ)) : PI X tg e (cI T E (iSeqD τ)) := PI.imp (pi_sq he) fun σ H R q => by
  rw [hK]
  obtain ⟨F, σw, M, Rw, Ew, rs, S, t, kq, kx⟩ := q
  refine ⟨F, σw, M, _, Ew, rs, S, t, fun x M1 v H1 F1 e1 r1 S1 ⟨us, G, h1, q⟩ => ?_, kx⟩
  obtain ⟨g, h2⟩ := walk_w S1 r1 h1
  rcases h2 with ⟨a, rfl, h3, k⟩ | ⟨a, rfl, h3, k⟩ | ⟨z, rfl, k⟩
  · exact .inl ⟨a, rfl, h3, kq _ _ _ _ _ _ e1 S1 g k q⟩
  · exact .inr (.inl ⟨a, rfl, h3, kq _ _ _ _ _ _ e1 S1 g k q⟩)
  · exact .inr (.inr ⟨z, rfl, kq _ _ _ _ _ _ e1 S1 g k q⟩)
def iRg1 (τ : DE) : DI := fun σ M K Ex => τ σ M (fun x M1 => ∃ j, x = .int j ∧ (-(2 ^ 62) ≤ j ∧ j < 2 ^ 62) ∧ K (rangeL 0 j) (fun _ => True) M1) Ex
theorem ai_rg1 {tg e : Expr} {τ : DE} {p pos : Pos} (hg : Gl X "range") (hm : X.mg "range" = none) (he : PE X e (cE T E τ)) (hs : noStar e = true) : PI X tg (.Call (.Name "range" p) [e] [] pos) (cI T E (iRg1 τ)) :=
  PI.imp (pi_range1 hg hm (pa_cons he pa_nil (star_cons hs)) (star_cons hs)) fun σ H R q => by
  obtain ⟨F, σw, M, Rw, Ew, rs, S, t, kq, kx⟩ := q
  refine ⟨F, σw, M, _, Ew, rs, S, t, fun x M1 v H1 F1 e1 r1 S1 ⟨j, ej, h1, q⟩ => ?_, kx⟩
  subst ej
  have k := wk_rng (T := T) (F := F1) (H := H1) (lo := 0) (hi := j) (G := fun _ => True)
  rw [Int.sub_zero] at k
  exact ⟨j, by rw [RW.int_.mp r1], h1.1, h1.2, kq _ _ _ _ _ _ e1 S1 trivial k q⟩
def iRg2 (τ τ' : DE) : DI := fun σ M K Ex => τ σ M (fun x M1 => τ' σ M1 (fun y M2 => ∃ i j, x = .int i ∧ y = .int j ∧ (-(2 ^ 62) ≤ i ∧ i < 2 ^ 62 ∧ -(2 ^ 62) ≤ j ∧ j < 2 ^ 62) ∧ K (rangeL i j) (fun _ => True) M2) Ex) Ex
theorem ai_rg2 {tg e e' : Expr} {τ τ' : DE} {p pos : Pos} (hg : Gl X "range") (hm : X.mg "range" = none) (he : PE X e (cE T E τ)) (he' : PE X e' (cE T E τ')) (hs : noStar e = true) (hs' : noStar e' = true) : PI X tg (.Call (.Name "range" p) [e, e'] [] pos) (cI T E (iRg2 τ τ')) :=
  PI.imp (pi_range2 hg hm (pa_cons he (pa_cons he' pa_nil (star_cons hs')) (star_cons hs)) (by rw [star_cons hs, star_cons hs']; rfl) (by rw [star_cons hs']; rfl)) fun σ H R q => by
  obtain ⟨F, σw, M, Rw, Ew, rs, S, t, kq, kx⟩ := q
  refine ⟨F, σw, M, _, Ew, rs, S, t, fun x M1 v H1 F1 e1 r1 S1 q => ?_, kx⟩
  refine ⟨F1, σw, M1, _, Ew, rs.ext e1, S1, q, fun y M2 u H2 F2 e2 r2 S2 q => ?_, kx.ext e1⟩
  obtain ⟨i, j, ei, ej, h1, q'⟩ := q
  subst ei ej
  exact ⟨i, j, by rw [RW.int_.mp r1, RW.int_.mp r2], h1, kq _ _ _ _ _ _ (e1.trans e2) S2 trivial wk_rng q'⟩
def iZip (τ τ' : DE) : DI := fun σ M K Ex => τ σ M (fun x M1 => τ' σ M1 (fun y M2 => ∃ ws z, x = .tup ws ∧ y = .str z ∧ K (pairs ws (signs z)) (fun _ => True) M2) Ex) Ex
theorem ai_zip {e e' : Expr} {elts : List Expr} {kk : Nat} {tpos : Pos} {τ τ' : DE} {p pos : Pos} (hK : X.K = T.K) (hg : Gl X "zip") (hm : X.mg "zip" = none) (he : PE X e (cE T E τ)) (he' : PE X e' (cE T E τ')) (hs : noStar e = true) (hs' : noStar e' = true) : PI X (.Tuple elts kk tpos) (.Call (.Name "zip" p) [e, e'] [] pos) (cI T E (iZip τ τ')) :=
  PI.imp (pi_zipS hg hm (pa_cons he (pa_cons he' pa_nil (star_cons hs')) (star_cons hs)) (star_cons hs) (star_any (by simp [hs']))) fun σ H R q => by
  rw [hK]
  obtain ⟨F, σw, M, Rw, Ew, rs, S, t, kq, kx⟩ := q
  refine ⟨F, σw, M, _, Ew, rs, S, t, fun x M1 v H1 F1 e1 r1 S1 q => ?_, kx⟩
  refine ⟨F1, σw, M1, _, Ew, rs.ext e1, S1, q, fun y M2 u H2 F2 e2 r2 S2 q => ?_, kx.ext e1⟩
  obtain ⟨ws, z, ex, ey, q'⟩ := q
  subst ex ey
  obtain ⟨a, vs, rfl, h1, h2⟩ := RW.tup_.mp r1
  exact ⟨a, z, vs, by rw [RW.str_.mp r2], e2.sqt h1, kq _ _ _ _ _ _ (e1.trans e2) S2 trivial (wk_zipS (e2.sqt h1) (h2.ext e2)) q'⟩
def iEnumD (τ : DE) : DI := fun σ M K Ex => τ σ M (fun x M1 => ∃ ws, lv M1 x = some ws ∧ (∃ us, x = .lst us) ∧ K (enums 0 ws) (fun _ => True) M1) Ex
theorem ai_enum {e : Expr} {elts : List Expr} {kk : Nat} {tpos : Pos} {τ : DE} {p pos : Pos} (hK : X.K = T.K) (hg : Gl X "enumerate") (hm : X.mg "enumerate" = none) (he : PE X e (cE T E τ)) (hs : noStar e = true) : PI X (.Tuple elts kk tpos) (.Call (.Name "enumerate" p) [e] [] pos) (cI T E (iEnumD τ)) :=
  PI.imp (pi_enum hg hm (pa_cons he pa_nil (star_cons hs)) (star_cons hs)) fun σ H R q => by
  rw [hK]
  obtain ⟨F, σw, M, Rw, Ew, rs, S, t, kq, kx⟩ := q
  refine ⟨F, σw, M, _, Ew, rs, S, t, fun x M1 v H1 F1 e1 r1 S1 ⟨ws, h1, ⟨us, ex⟩, q⟩ => ?_, kx⟩
  subst ex
  cases h1
  obtain ⟨a, vs, rfl, f, h2, h3⟩ := RW.lst_.mp r1
  exact ⟨a, vs, rfl, .of h2, kq _ _ _ _ _ _ e1 S1 trivial (wk_enum fun F' H' M' x _ _ => ⟨vs, .of ((x.fz a f).2.trans h2), h3.ext x⟩) q⟩

inductive Tg where
  | name (i : Nat)
  | tup (is : List Nat)
def setAll : List Nat → List W → Sw → Sw
  | i :: is, w :: ws, σ => setAll is ws (σ.set i (some w))
  | _, _, σ => σ
def Tg.asg : Tg → W → Sw → Option Sw
  | .name i, w, σ => some (σ.set i (some w))
  | .tup is, .tup ws, σ => if is.length = ws.length then some (setAll is ws σ) else none
  | .tup _, _, _ => none
def Tg.slots : Tg → List Nat
  | .name i => [i]
  | .tup is => is
def cG (T : Tb) (g : Tg) : TG := fun v σ H Q => ∃ F w σw σw', RW T F H w v ∧ RS T F H σw σ ∧ σw.length ≤ σ.length ∧ g.asg w σw = some σw' ∧
  ∀ σ', RS T F H σw' σ' → σw'.length ≤ σ'.length → (∀ vs : List Nat, (∀ i ∈ g.slots, i ∈ vs) → wipe σ' vs = wipe σ vs) → Q σ' H
theorem wipe_set {σ : L2.St} {i : Nat} {x : Option V} : ∀ {vs : List Nat}, i ∈ vs → wipe (σ.set i x) vs = wipe σ vs
  | [], h => by simp at h
  | v :: vs, h => by
    unfold wipe
    by_cases e : i ∈ vs
    · rw [wipe_set e]
    · have ev : i = v := by
        rcases List.mem_cons.mp h with h | h
        · exact h
        · exact absurd h e
      subst ev
      have key : ∀ (vs : List Nat) (σ : L2.St), i ∉ vs → wipe (σ.set i x) vs = (wipe σ vs).set i x := by
        intro vs
        induction vs with
        | nil => intro σ _; rfl
        | cons u us ih =>
          intro σ hn
          unfold wipe
          rw [ih σ (fun z => hn (List.mem_cons_of_mem _ z)), List.set_comm]
          exact fun z => hn (by rw [z]; exact List.mem_cons_self ..)
      rw [key vs σ e, List.set_set]
def gSlots : List Nat → TGs
  | [] => gNil
  | i :: is => gCons (gName i) (gSlots is)
theorem gSlots_ok {F : Addr → Prop} {H : Hp} {Q : L2.St → Hp → Prop} : ∀ {is : List Nat} {ws : List W} {vs : List V} {σw : Sw} {σ : L2.St}, RWs T F H ws vs → RS T F H σw σ → σw.length ≤ σ.length → is.length = ws.length →
    (∀ σ', RS T F H (setAll is ws σw) σ' → (setAll is ws σw).length ≤ σ'.length → (∀ us : List Nat, (∀ i ∈ is, i ∈ us) → wipe σ' us = wipe σ us) → Q σ' H) → gSlots is vs σ H Q
  | [], [], _, _, σ, r, rs, hl, _, k => ⟨RWs.nil_.mp r, k σ rs hl fun _ _ => rfl⟩
  | [], _ :: _, _, _, _, _, _, _, h, _ => by simp at h
  | _ :: _, [], _, _, _, _, _, _, h, _ => by simp at h
  | i :: is, w :: ws, _, σw, σ, r, rs, hl, h, k => by
    obtain ⟨v, s, rfl, r1, r2⟩ := RWs.cons_.mp r
    refine ⟨v, s, rfl, gSlots_ok r2 (rs.set hl i r1) (by simpa using hl) (by simpa using h) fun σ' a b c => k σ' a b fun us hu => ?_⟩
    rw [c us fun j hj => hu j (List.mem_cons_of_mem _ hj), wipe_set (hu i (List.mem_cons_self ..))]
theorem ag_name {i : Nat} {x : Str} {pos : Pos} (hN : X.N.Nodup) (hi : X.N[i]? = some x) (hx : Loc X.env.scope x) (hf : X.fn x = true ∨ X.env.scope.names.lookup x = some .local) : PG X (.Name x pos) (cG T (.name i)) :=
  ⟨fun pins s σ H v u Q I r ⟨F, w, σw, σw', rw', rs, hl, ha, k⟩ => by
    cases ha
    exact (pg_name hN hi hx hf).run pins s σ H v u Q I r (k _ (rs.set hl i rw') (by simpa using hl) fun vs h => wipe_set (h i (by simp [Tg.slots])))⟩
def isName : Expr → Bool
  | .Name .. => true
  | _ => false
theorem asgEach_cons {e : Expr} {es : List Expr} {env : Env} (h : isName e = true) : assignEach (e :: es) env = (false, assign e env) :: assignEach es env := by
  cases e <;> first | rfl | cases h
theorem asgEach_names {env : Env} : ∀ {es : List Expr}, es.all isName = true → (assignEach es env).length = es.length ∧ (assignEach es env).findIdx? (·.1) = none
  | [], _ => ⟨rfl, rfl⟩
  | e :: es, h => by
    rw [List.all_cons, Bool.and_eq_true] at h
    obtain ⟨h1, h2⟩ := asgEach_names (env := env) h.2
    rw [asgEach_cons h.1]
    refine ⟨by rw [List.length_cons, List.length_cons, h1], ?_⟩
    rw [List.findIdx?_cons]
    simp [h2]
theorem pgs_slots : ∀ {es : List Expr} {is : List Nat}, es.all isName = true → Paired (fun (e : Expr) (i : Nat) => PG X e (gName i)) es is → PGs X es (gSlots is)
  | _, _, _, .nil => pgs_nil
  | e :: es, _, h, .cons h1 h2 => by
    rw [List.all_cons, Bool.and_eq_true] at h
    exact pgs_cons h1 (pgs_slots h.2 h2) (by rw [asgEach_cons h.1]; rfl)
theorem ag_tup {es : List Expr} {is : List Nat} {k : Nat} {pos : Pos} (hK : X.K = T.K) (hc : X.calm = true) (hn : es.all isName = true) (h : Paired (fun (e : Expr) (i : Nat) => PG X e (gName i)) es is) :
    PG X (.Tuple es k pos) (cG T (.tup is)) := by
  have hl : es.length = is.length := Paired.length h
  have ha := asgEach_names (env := X.env) hn
  have P : PG X (.Tuple es k pos) (gTup X.K es.length (gSlots is)) := pg_tup hc (pgs_slots hn h) ha.1 ha.2
  refine ⟨fun pins s σ H v u Q I r ⟨F, w, σw, σw', rw', rs, hz, ha, kk⟩ => P.run pins s σ H v u Q I r ?_⟩
  cases w with
  | tup ws =>
    obtain ⟨a, vs, rfl, h1, h2⟩ := RW.tup_.mp rw'
    unfold Tg.asg at ha
    by_cases hlen : is.length = ws.length
    · simp only [if_pos hlen] at ha
      cases ha
      refine ⟨a, vs, rfl, by rw [hK]; exact h1, by rw [← h2.length, ← hlen, hl], gSlots_ok h2 rs hz hlen fun σ' a b c => kk σ' a b c⟩
    · simp only [if_neg hlen] at ha
      cases ha
  | _ => cases ha

theorem ps_nx {D : Ends} {f : L2.St → Hp → Prop} : True := trivial
def dAsg (τ : DE) (g : Tg) : DS := fun D σ M => τ σ M (fun w M1 => ∃ σ', g.asg w σ = some σ' ∧ D.nx σ' M1) D.ex
theorem cs_asg {τ : DE} {g : Tg} {D : Ends} {σ : L2.St} {H : Hp} (q : cS T E (dAsg τ g) D σ H) : tAsg (cE T E τ) (cG T g) D σ H := by
  obtain ⟨F, σw, M, Dv, rs, hl, S, t, k1, _, _, _, kx⟩ := q
  refine ⟨F, σw, M, _, Dv.ex, rs, S, t, fun w M1 v H1 F1 e1 r1 S1 ⟨σ', h1, q⟩ => ?_, kx⟩
  exact ⟨F1, w, σw, σ', r1, rs.ext e1, hl, h1, fun σ2 a b _ => k1 σ' M1 σ2 H1 F1 e1 a b S1 q⟩
theorem one_asg {tg : Expr} {env : Env} (h : noStar tg = true) : (assignEach [tg] env).map (·.2) = [assign tg env] := by
  cases tg <;> first | rfl | cases h
theorem as_asg {tg e : Expr} {τ : DE} {g : Tg} {pos : Pos} (hn : noStar tg = true) (he : PE X e (cE T E τ)) (hg : PG X tg (cG T g)) (hs : swapsWith e (some tg) pos.line X.env = pure false) (hw : swappedStores [tg] e X.env = pure none) : PS X (.Assign [tg] e pos) (cS T E (dAsg τ g)) :=
  PS.imp (ps_asg he hg (show swapsWith e (some tg) pos.line X.env = pure false from hs) hw (h1 := one_asg hn)) fun D σ H q => cs_asg q
def dExpr (τ : DE) : DS := fun D σ M => τ σ M (fun _ M1 => D.nx σ M1) D.ex
theorem as_expr {e : Expr} {τ : DE} {pos : Pos} (he : PE X e (cE T E τ)) (hs : noComp e = true) : PS X (.Expr e pos) (cS T E (dExpr τ)) := PS.imp (ps_expr he (swaps_of hs)) fun D σ H q => by
  obtain ⟨F, σw, M, Dv, rs, hl, S, t, k1, _, _, _, kx⟩ := q
  exact ⟨F, σw, M, _, Dv.ex, rs, S, t, fun w M1 v H1 F1 e1 r1 S1 q => k1 σw M1 σ H1 F1 e1 (rs.ext e1) hl S1 q, kx⟩
def dRet (τ : DE) : DS := fun D σ M => τ σ M D.rt D.ex
theorem as_ret {e : Expr} {τ : DE} {pos : Pos} (he : PE X e (cE T E τ)) : PS X (.Return (some e) pos) (cS T E (dRet τ)) := PS.imp (ps_ret he) fun D σ H q => by
  obtain ⟨F, σw, M, Dv, rs, hl, S, t, _, k2, _, _, kx⟩ := q
  exact ⟨F, σw, M, _, Dv.ex, rs, S, t, k2, kx⟩
def dNext : DS := fun D σ M => D.nx σ M
def dSeq (a b : DS) : DS := fun D σ M => a { D with nx := b D } σ M
theorem ass_nil : PSs X [] (cS T E dNext) := PSs.imp pss_nil fun D σ H q => by
  obtain ⟨F, σw, M, Dv, rs, hl, S, t, k1, _, _, _, kx⟩ := q
  exact k1 σw M σ H F .refl rs hl S t
theorem ass_cons {st : Stmt} {rest : List Stmt} {a b : DS} (h1 : PS X st (cS T E a)) (h2 : PSs X rest (cS T E b)) : PSs X (st :: rest) (cS T E (dSeq a b)) := PSs.imp (pss_cons h1 h2) fun D σ H q => by
  obtain ⟨F, σw, M, Dv, rs, hl, S, t, k1, k2, k3, k4, kx⟩ := q
  refine ⟨F, σw, M, { Dv with nx := b Dv }, rs, hl, S, t, fun σ1 M1 σ' H1 F1 e1 r1 l1 S1 q => ?_, k2, k3, k4, kx⟩
  exact ⟨F1, σ1, M1, Dv, r1, l1, S1, q, fun a b c d f x => k1 a b c d f (e1.trans x), fun a b c d f x => k2 a b c d f (e1.trans x), fun a b c d f x => k3 a b c d f (e1.trans x), fun a b c d f x => k4 a b c d f (e1.trans x), kx.ext e1⟩
def dIf (t : DT) (a b : DS) : DS := fun D σ M => t σ M (fun c M1 => if c = true then a D σ M1 else b D σ M1) D.ex
theorem as_if {c : Expr} {as bs : List Stmt} {t : DT} {a b : DS} {pos : Pos} (hc : PT X c (cT T E t)) (ha : PSs X as (cS T E a)) (hb : PSs X bs (cS T E b)) : PS X (.If c as bs pos) (cS T E (dIf t a b)) := PS.imp (ps_if hc ha hb) fun D σ H q => by
  obtain ⟨F, σw, M, Dv, rs, hl, S, t, k1, k2, k3, k4, kx⟩ := q
  refine ⟨F, σw, M, _, Dv.ex, rs, S, t, fun c M1 H1 F1 e1 S1 q => ?_, kx⟩
  cases c with
  | true =>
    rw [if_pos rfl] at q ⊢
    exact ⟨F1, σw, M1, Dv, rs.ext e1, hl, S1, q, fun a b c d f x => k1 a b c d f (e1.trans x), fun a b c d f x => k2 a b c d f (e1.trans x), fun a b c d f x => k3 a b c d f (e1.trans x), fun a b c d f x => k4 a b c d f (e1.trans x), kx.ext e1⟩
  | false =>
    rw [if_neg Bool.false_ne_true] at q ⊢
    exact ⟨F1, σw, M1, Dv, rs.ext e1, hl, S1, q, fun a b c d f x => k1 a b c d f (e1.trans x), fun a b c d f x => k2 a b c d f (e1.trans x), fun a b c d f x => k3 a b c d f (e1.trans x), fun a b c d f x => k4 a b c d f (e1.trans x), kx.ext e1⟩
def dNever : DS := fun _ _ _ => False
theorem as_never {st : Stmt} : PS X st (cS T E dNever) := PS.imp ps_never fun D σ H q => by
  obtain ⟨F, σw, M, Dv, rs, hl, S, t, _⟩ := q
  exact t.elim
def putW (f : Str) (w : W) : List (Str × W) → List (Str × W)
  | [] => [(f, w)]
  | (n, u) :: fs => if n = f then (n, w) :: fs else (n, u) :: putW f w fs
def dFld (τo τ : DE) (f : Str) : DS := fun D σ M => τ σ M (fun y M1 => τo σ M1 (fun x M2 => ∃ a c fs, x = .ref a ∧ M2 a = some (.ins c fs) ∧ fs.length < 1000 ∧ D.nx σ (mup M2 a (.ins c (putW f y fs)))) D.ex) D.ex
theorem RF.put {F : Addr → Prop} {H : Hp} {f : Str} {w : W} {v : V} (r : RW T F H w v) : ∀ {fs : List (Str × W)} {us : List (Str × V)}, RF T F H fs us → RF T F H (putW f w fs) (putF f v us)
  | [], _, h => by rw [show _ = _ from h]; exact ⟨v, [], rfl, r, rfl⟩
  | (n, w') :: fs, _, h => by
    obtain ⟨v', s, rfl, h1, h2⟩ := h
    unfold putW putF
    by_cases e : n = f
    · rw [if_pos e, if_pos e]; exact ⟨v, s, rfl, r, h2⟩
    · rw [if_neg e, if_neg e]; exact ⟨v', _, rfl, h1, RF.put r h2⟩
theorem as_fld {fields : List Str} {o e : Expr} {f : Str} {τo τ : DE} {p pos : Pos} (hK : X.K = T.K) (hc : ClF T X fields) (hf : f ∈ fields) (ho : PE X o (cE T E τo)) (he : PE X e (cE T E τ)) (hs : swapsWith e (some (.Attribute o f p)) pos.line X.env = pure false) :
    PS X (.Assign [.Attribute o f p] e pos) (cS T E (dFld τo τ f)) := PS.imp (ps_fld ho he hs) fun D σ H q => by
  obtain ⟨F, σw, M, Dv, rs, hl, S, t, k1, k2, k3, k4, kx⟩ := q
  refine ⟨F, σw, M, _, Dv.ex, rs, S, t, fun y M1 u H1 F1 e1 r1 S1 q => ?_, kx⟩
  refine ⟨F1, σw, M1, _, Dv.ex, rs.ext e1, S1, q, fun x M2 v H2 F2 e2 r2 S2 q => ?_, kx.ext e1⟩
  obtain ⟨a, c, fs, ex, h1, h2, q⟩ := q
  subst ex
  obtain ⟨_, ho, h3, dx, us, rfl, h4⟩ := S2.ob a _ h1
  obtain ⟨e3, S3⟩ := S2.put (o := .ins (T.cls c) dx (putF f u us)) (u := .ins c (putW f y fs)) h1 ⟨dx, _, rfl, RF.put (r1.ext e2) h4⟩
  have e := (e1.trans e2).trans e3
  refine ⟨a, T.cls c, dx, us, RW.ref_.mp r2, h3, hc.cl c, hc.no c f hf, ?_, k1 _ _ _ _ _ e (rs.ext e) hl S3 q⟩
  have := congrArg List.length h4.names
  rw [List.length_map, List.length_map] at this
  omega
def dSet (τo τi τ : DE) : DS := fun D σ M => τ σ M (fun y M1 => τo σ M1 (fun x M2 => τi σ M2 (fun z M3 => ∃ a ws i j, x = .ref a ∧ z = .int i ∧ M3 a = some (.lst ws) ∧ ixN ws.length i = some j ∧ D.nx σ (mup M3 a (.lst (ws.set j y)))) D.ex) D.ex) D.ex
theorem as_set {o i e : Expr} {τo τi τ : DE} {p pos : Pos} (ho : PE X o (cE T E τo)) (hi : PE X i (cE T E τi)) (he : PE X e (cE T E τ)) (hs : swapsWith e (some (.Subscript o i p)) pos.line X.env = pure false) (hst : PG X (.Subscript o i p) (gSub (cE T E τo) (cE T E τi) rSetL)) :
    PS X (.Assign [.Subscript o i p] e pos) (cS T E (dSet τo τi τ)) := PS.imp (ps_asg he hst hs (by cases e <;> rfl)) fun D σ H q => by
  obtain ⟨F, σw, M, Dv, rs, hl, S, t, k1, k2, k3, k4, kx⟩ := q
  refine ⟨F, σw, M, _, Dv.ex, rs, S, t, fun y M1 u H1 F1 e1 r1 S1 q => ?_, kx⟩
  refine ⟨F1, σw, M1, _, Dv.ex, rs.ext e1, S1, q, fun x M2 v H2 F2 e2 r2 S2 q => ?_, kx.ext e1⟩
  refine ⟨F2, σw, M2, _, Dv.ex, (rs.ext e1).ext e2, S2, q, fun z M3 v3 H3 F3 e3 r3 S3 q => ?_, (kx.ext e1).ext e2⟩
  obtain ⟨a, ws, n, j, ex, ez, h1, h2, q'⟩ := q
  subst ex ez
  obtain ⟨_, us, h3, h4⟩ := S3.lst h1
  obtain ⟨e4, S4⟩ := S3.put (o := .lst (us.set j u)) (u := .lst (ws.set j y)) h1 ⟨_, rfl, h4.set j ((r1.ext e2).ext e3)⟩
  have e := ((e1.trans e2).trans e3).trans e4
  exact ⟨a, us, n, j, RW.ref_.mp r2, RW.int_.mp r3, h3, by rw [← h4.length]; exact h2, k1 _ _ _ _ _ e (rs.ext e) hl S4 q'⟩
def forW (G : Mh → Prop) (g : Tg) (body : DS) : List W → DS
  | [], D, σ, M => D.nx σ M
  | x :: xs, D, σ, M => ∃ σ', g.asg x σ = some σ' ∧ body { nx := fun σ2 M2 => G M2 ∧ forW G g body xs D σ2 M2, rt := D.rt, bk := D.nx, ct := fun σ2 M2 => G M2 ∧ forW G g body xs D σ2 M2, ex := D.ex } σ' M
def dFor (ι : DI) (g : Tg) (body : DS) : DS := fun D σ M => ι σ M (fun ws G M1 => forW G g body ws D σ M1) D.ex
theorem as_for {tg iter : Expr} {sts : List Stmt} {ι : DI} {g : Tg} {body : DS} {pos : Pos} (hp : PassesOwn (model X.prog X.w) X.A X.env X.xe) (hc : X.calm = true) (hi : PI X tg iter (cI T E ι)) (hg : PG X tg (cG T g)) (hb : PSs X sts (cS T E body)) (hs : noSet iter = true) :
    PS X (.For tg iter sts [] pos) (cS T E (dFor ι g body)) := PS.imp (ps_for hp hc hi hg hb (folded_of hs)) fun D σ H q => by
  obtain ⟨F, σw, M, Dv, rs, hl, S, t, k1, k2, k3, k4, kx⟩ := q
  refine ⟨F, σw, M, _, Dv.ex, rs, S, t, fun ws G M1 J H1 F1 e1 S1 g1 wk q => ?_, kx⟩
  refine ⟨fun i m σ' H' => m = ws.length - i ∧ i ≤ ws.length ∧ ∃ F' σw' M', Ext F1 H1 F' H' ∧ RS T F' H' σw' σ' ∧ σw'.length ≤ σ'.length ∧ Sim T F' H' M' ∧ G M' ∧ forW G g body (ws.drop i) Dv σw' M',
    ⟨ws.length, by simp, Nat.zero_le _, F1, σw, M1, .refl, rs.ext e1, hl, S1, g1, q⟩, ?_⟩
  rintro i m σ' H' ⟨rfl, hi, F', σw', M', e2, rs2, hl2, S2, g2, q2⟩
  by_cases hlt : i < ws.length
  · refine .inr ⟨wk.go F' H' M' i e2 S2 g2 hlt, fun σ2 H2 => i + 1 ≤ ws.length ∧ ∃ F2 σw2 M2, Ext F1 H1 F2 H2 ∧ RS T F2 H2 σw2 σ2 ∧ σw2.length ≤ σ2.length ∧ Sim T F2 H2 M2 ∧ G M2 ∧ forW G g body (ws.drop (i + 1)) Dv σw2 M2,
      fun σ2 H2 ⟨a, b⟩ => ⟨ws.length - (i + 1), by omega, rfl, a, b⟩, fun x H2 y => ?_⟩
    obtain ⟨F2, e3, S3, r3⟩ := wk.yld F' H' M' i (ws[i]) x H2 e2 S2 g2 (List.getElem?_eq_getElem hlt) y
    rw [List.drop_eq_getElem_cons hlt] at q2
    obtain ⟨σn, h1, q3⟩ := q2
    refine ⟨F2, ws[i], σw', σn, r3, rs2.ext e3, hl2, h1, fun σ3 a b _ => ?_⟩
    have e4 := e1.trans (e2.trans e3)
    refine ⟨F2, σn, M', _, a, b, S3, q3, fun σ5 M5 σ6 H6 F6 e6 r6 l6 S6 ⟨gg, q6⟩ => ⟨hlt, F6, σ5, M5, (e2.trans e3).trans e6, r6, l6, S6, gg, q6⟩, fun a b c d f x => k2 a b c d f (e4.trans x), fun a b c d f x => k1 a b c d f (e4.trans x), fun σ5 M5 σ6 H6 F6 e6 r6 l6 S6 ⟨gg, q6⟩ => ⟨hlt, F6, σ5, M5, (e2.trans e3).trans e6, r6, l6, S6, gg, q6⟩, kx.ext e4⟩
  · have : i = ws.length := by omega
    subst this
    rw [List.drop_length] at q2
    exact .inl ⟨wk.stop F' H' M' _ e2 S2 g2 (Nat.le_refl _), k1 _ _ _ _ _ (e1.trans e2) rs2 hl2 S2 q2⟩
def whileW (t : DT) (body : DS) : Nat → DS
  | 0, _, _, _ => False
  | n + 1, D, σ, M => t σ M (fun b M1 => if b = true then body { nx := whileW t body n D, rt := D.rt, bk := D.nx, ct := whileW t body n D, ex := D.ex } σ M1 else D.nx σ M1) D.ex
def dWhile (t : DT) (body : DS) : DS := fun D σ M => ∃ n, whileW t body n D σ M
theorem as_while {c : Expr} {sts : List Stmt} {t : DT} {body : DS} {pos : Pos} (hp : PassesOwn (model X.prog X.w) X.A X.env X.xe) (hc : PT X c (cT T E t)) (hb : PSs X sts (cS T E body)) : PS X (.While c sts [] pos) (cS T E (dWhile t body)) := PS.imp (ps_while hp hc hb) fun D σ H q => by
  obtain ⟨F, σw, M, Dv, rs, hl, S, ⟨n, t⟩, k1, k2, k3, k4, kx⟩ := q
  refine ⟨fun m σ' H' => ∃ F' σw' M', Ext F H F' H' ∧ RS T F' H' σw' σ' ∧ σw'.length ≤ σ'.length ∧ Sim T F' H' M' ∧ whileW _ body m Dv σw' M', ⟨n, F, σw, M, .refl, rs, hl, S, t⟩, ?_⟩
  rintro m σ' H' ⟨F', σw', M', e1, rs1, hl1, S1, q⟩
  cases m with
  | zero => exact q.elim
  | succ m =>
    refine ⟨F', σw', M', _, Dv.ex, rs1, S1, q, fun b M2 H2 F2 e2 S2 q => ?_, kx.ext e1⟩
    have e := e1.trans e2
    cases b with
    | false =>
      rw [if_neg Bool.false_ne_true] at q
      exact k1 _ _ _ _ _ e (rs1.ext e2) hl1 S2 q
    | true =>
      rw [if_pos rfl] at q
      refine ⟨fun σ3 H3 => ∃ F3 σw3 M3, Ext F H F3 H3 ∧ RS T F3 H3 σw3 σ3 ∧ σw3.length ≤ σ3.length ∧ Sim T F3 H3 M3 ∧ whileW _ body m Dv σw3 M3, fun σ3 H3 h => ⟨m, Nat.lt_succ_self _, h⟩, ?_⟩
      exact ⟨F2, σw', M2, _, rs1.ext e2, hl1, S2, q, fun σ5 M5 σ6 H6 F6 e6 r6 l6 S6 q6 => ⟨F6, σ5, M5, e.trans e6, r6, l6, S6, q6⟩, fun a b c d f x => k2 a b c d f (e.trans x), fun a b c d f x => k1 a b c d f (e.trans x), fun σ5 M5 σ6 H6 F6 e6 r6 l6 S6 q6 => ⟨F6, σ5, M5, e.trans e6, r6, l6, S6, q6⟩, kx.ext e⟩
end WL
namespace WL
open PySem PySem.Spec PyProof.Rows L2
variable {T : Tb} {X : Cx} {E : XK}
abbrev noX : QX := fun _ _ => False
def E0w : XK := fun _ _ _ => False
theorem noX_k {T : Tb} {F : Addr → Prop} {H : Hp} : ExK T E0w F H noX := fun _ _ _ _ _ _ _ _ _ q => q.elim
def finL (own : Bool) (D : Addr) (acc : List W) (M : Mh) (Q : QW) : Prop := M D = some (.lst acc) ∧ match own with
  | true => Q (.ref D) M
  | false => Q (.lst acc) (mdel M D)
def lcW (own : Bool) (G : Mh → Prop) (g : Tg) (tt : DT) (te : DE) (D : Addr) (σ : Sw) : List W → List W → Mh → QW → Prop
  | [], acc, M, Q => finL own D acc M Q
  | x :: xs, acc, M, Q => ∃ σ', g.asg x σ = some σ' ∧ tt σ' M (fun b M1 => M1 D = some (.lst acc) ∧ G M1 ∧
      if b = true then te σ' M1 (fun y M2 => M2 D = some (.lst acc) ∧ G (mup M2 D (.lst (acc ++ [y]))) ∧ lcW own G g tt te D σ xs (acc ++ [y]) (mup M2 D (.lst (acc ++ [y]))) Q) noX
      else lcW own G g tt te D σ xs acc M1 Q) noX
def dLc (own : Bool) (ι : DI) (g : Tg) (tt : DT) (te : DE) (vs : List Nat) : DE := fun σ M Q Ex => ι σ M (fun ws G M1 => ws.length ≤ sizeLine ∧ ∀ D, M1 D = none → G (mup M1 D (.lst [])) ∧
  lcW own G g tt te D (wipeW σ vs) ws [] (mup M1 D (.lst [])) Q) Ex
theorem KQ.fin {F : Addr → Prop} {H : Hp} {M : Mh} {Qw : QW} {Q : VK} {own : Bool} {D : Addr} {acc : List W} (k : KQ T F H Qw Q) (S : Sim T F H M) (q : finL own D acc M Qw) : Q (.ref D) H := by
  obtain ⟨h, q⟩ := q
  cases own with
  | true => exact k.now S (RW.ref_.mpr rfl) q
  | false =>
    obtain ⟨e, S'⟩ := S.freeze h rfl
    obtain ⟨_, vs, q1, r⟩ := S.lst h
    exact k _ _ _ _ _ e (RW.lst_.mpr ⟨D, vs, rfl, .inr rfl, q1, r.ext e⟩) S' q
theorem ce_lc {own : Bool} {ι : DI} {g : Tg} {tt : DT} {te : DE} {vs : List Nat} (hg : ∀ i ∈ g.slots, i ∈ vs) {σ : L2.St} {H : Hp} {Q : VK} (q : cE T E (dLc own ι g tt te vs) σ H Q) :
    tLc (cI T E ι) (cG T g) (cT T E0w tt) (cE T E0w te) vs σ H Q := by
  obtain ⟨F, σw, M, Qw, Ew, rs, S, t, kq, kx⟩ := q
  refine ⟨F, σw, M, _, Ew, rs, S, t, fun ws G M1 J H1 F1 e1 S1 g1 wk q => ?_, kx⟩
  intro D hD
  obtain ⟨hz, q⟩ := q
  have hM := S1.fresh hD
  obtain ⟨g0, q⟩ := q D hM.1
  obtain ⟨eD, SD⟩ := S1.newM (p := D) (o := .lst []) (u := .lst []) hD ⟨[], rfl, .nil⟩
  refine ⟨fun i m H' => m = ws.length - i ∧ i ≤ ws.length ∧ ∃ F' M' acc, Ext F1 H1 F' H' ∧ Sim T F' H' M' ∧ G M' ∧ acc.length ≤ i ∧ lcW own G g tt te D (wipeW σw vs) (ws.drop i) acc M' Qw,
    ⟨ws.length, by simp, Nat.zero_le _, F1, _, [], eD, SD, g0, Nat.le_refl _, q⟩, ?_⟩
  rintro i m H' ⟨rfl, hi, F', M', acc, e2, S2, g2, ha, q2⟩
  by_cases hlt : i < ws.length
  · refine .inr ⟨wk.go F' H' M' i e2 S2 g2 hlt, fun H2 => i + 1 ≤ ws.length ∧ ∃ F2 M2 acc, Ext F1 H1 F2 H2 ∧ Sim T F2 H2 M2 ∧ G M2 ∧ acc.length ≤ i + 1 ∧ lcW own G g tt te D (wipeW σw vs) (ws.drop (i + 1)) acc M2 Qw,
      fun H2 ⟨a, b⟩ => ⟨ws.length - (i + 1), by omega, rfl, a, b⟩, fun x H2 y => ?_⟩
    obtain ⟨F2, e3, S3, r3⟩ := wk.yld F' H' M' i (ws[i]) x H2 e2 S2 g2 (List.getElem?_eq_getElem hlt) y
    rw [List.drop_eq_getElem_cons hlt] at q2
    obtain ⟨σn, h1, q3⟩ := q2
    have e4 := e2.trans e3
    have rsn := ((rs.ext e1).ext e4).wipe vs
    refine ⟨F2, ws[i], wipeW σw vs, σn, r3, rsn, rsn.len, h1, fun σ3 a b c => ⟨?_, ?_⟩⟩
    · rw [c vs hg]
      have key : ∀ (us : List Nat) (σ : L2.St), (∀ i ∈ us, i ∈ vs) → wipe (wipe σ us) vs = wipe σ vs := by
        intro us
        induction us with
        | nil => intro σ _; rfl
        | cons u us ih =>
          intro σ hu
          show wipe ((wipe σ us).set u none) vs = _
          rw [wipe_set (hu u (List.mem_cons_self ..)), ih σ fun i hi => hu i (List.mem_cons_of_mem _ hi)]
      exact key vs σ fun _ h => h
    · refine ⟨F2, σn, M', _, noX, a, S3, q3, fun bb M4 H4 F4 e5 S4 q4 => ?_, noX_k⟩
      obtain ⟨hD4, g4, q4⟩ := q4
      cases bb with
      | false =>
        rw [if_neg Bool.false_ne_true] at q4 ⊢
        exact ⟨hlt, F4, M4, acc, e4.trans e5, S4, g4, by omega, q4⟩
      | true =>
        rw [if_pos rfl] at q4 ⊢
        refine ⟨F4, σn, M4, _, noX, a.ext e5, S4, q4, fun y5 M5 v5 H5 F5 e6 r5 S5 q5 => ?_, noX_k⟩
        obtain ⟨hD5, g5, q5⟩ := q5
        obtain ⟨_, us, h6, h7⟩ := S5.lst hD5
        obtain ⟨e7, S7⟩ := S5.put (o := .lst (us ++ [v5])) (u := .lst (acc ++ [y5])) hD5 ⟨_, rfl, h7.append (.cons r5 .nil)⟩
        refine ⟨us, h6, by rw [← h7.length]; omega, hlt, F5, _, acc ++ [y5], ((e4.trans e5).trans e6).trans e7, S7, g5, by simp; omega, q5⟩
  · have : i = ws.length := by omega
    subst this
    rw [List.drop_length] at q2
    exact .inl ⟨wk.stop F' H' M' _ e2 S2 g2 (Nat.le_refl _), KQ.fin (KQ.of kq (e1.trans e2)) S2 q2⟩
def dYes : DT := fun _ M Q _ => Q true M
theorem at_nil {X : Cx} {E : XK} : PTs X [] (cT T E dYes) := ⟨fun pins s σ H Q I q => by
  obtain ⟨F, σw, M, Qw, Ew, rs, S, t, kq, kx⟩ := q
  exact pts_nil.run pins s σ H Q I (kq true M H F .refl S t)⟩
theorem at_one {X : Cx} {E : XK} {c : Expr} {τ : DT} (h : PT X c (cT T E τ)) : PTs X [c] (cT T E τ) := pts_one h
theorem ae_lc {own : Bool} {elt tg iter : Expr} {ifs : List Expr} {scope : Scope} {ownN : List (Str × Nat)} {pos : Pos} {ι : DI} {g : Tg} {tt : DT} {te : DE} (hc : X.calm = true) (hN : X.N.Nodup) (hi : PI X tg iter (cI T E ι)) (ok : BlkOk X.N X.env.scope scope ownN)
    (hg : ∀ (s : Shared) (H : Hp) (C : Addr) (cl : List (Str × Addr)) (fp : List Addr), PG (X.blk s H scope (compEnvC scope cl C X.env) fp) tg (cG T g)) (ht : ∀ (s : Shared) (H : Hp) (C : Addr) (cl : List (Str × Addr)) (fp : List Addr), PTs (X.blk s H scope (compEnvC scope cl C X.env) fp) ifs (cT T E0w tt))
    (he : ∀ (s : Shared) (H : Hp) (C : Addr) (cl : List (Str × Addr)) (fp : List Addr), PE (X.blk s H scope (compEnvC scope cl C X.env) fp) elt (cE T E0w te)) (hs : noSet iter = true) (hsl : ∀ i ∈ g.slots, i ∈ ownN.map (·.2)) :
    PE X (.ListComp elt [⟨tg, iter, ifs, 0⟩] scope pos) (cE T E (dLc own ι g tt te (ownN.map (·.2)))) :=
  PE.imp (pe_lc hc hN hi ok hg ht he (folded_of hs)) fun σ H Q q => ce_lc hsl q
theorem as_lc {own : Bool} {i : Nat} {y : Str} {py : Pos} {elt tg iter : Expr} {ifs : List Expr} {scope : Scope} {ownN : List (Str × Nat)} {pos spos : Pos} {ι : DI} {g : Tg} {tt : DT} {te : DE} (hc : X.calm = true) (hN : X.N.Nodup) (hy : X.N[i]? = some y) (hyl : X.env.scope.names.lookup y = some .local)
    (hsw : swapsWith (.ListComp elt [⟨tg, iter, ifs, 0⟩] scope pos) (some (.Name y py)) spos.line X.env = pure true) (hi : PI X tg iter (cI T E ι)) (ok : BlkOk X.N X.env.scope scope ownN)
    (hg : ∀ (s : Shared) (H : Hp) (C : Addr) (cl : List (Str × Addr)) (fp : List Addr), PG (X.blk s H scope (compEnvC scope cl C X.env) fp) tg (cG T g)) (ht : ∀ (s : Shared) (H : Hp) (C : Addr) (cl : List (Str × Addr)) (fp : List Addr), PTs (X.blk s H scope (compEnvC scope cl C X.env) fp) ifs (cT T E0w tt))
    (he : ∀ (s : Shared) (H : Hp) (C : Addr) (cl : List (Str × Addr)) (fp : List Addr), PE (X.blk s H scope (compEnvC scope cl C X.env) fp) elt (cE T E0w te)) (hs : noSet iter = true) (hsl : ∀ i ∈ g.slots, i ∈ ownN.map (·.2)) :
    PS X (.Assign [.Name y py] (.ListComp elt [⟨tg, iter, ifs, 0⟩] scope pos) spos) (cS T E (dAsg (dLc own ι g tt te (ownN.map (·.2))) (.name i))) :=
  PS.imp (ps_setLc hc hN hy hyl hsw hi ok hg ht he (folded_of hs)) fun D σ H q => by
  obtain ⟨F, σw, M, Dv, rs, hl, S, t, k1, _, _, _, kx⟩ := q
  refine ce_lc (own := own) (tt := tt) hsl ⟨F, σw, M, _, Dv.ex, rs, S, t, fun w M1 v H1 F1 e1 r1 S1 ⟨σ', h1, q⟩ => ?_, kx⟩
  cases h1
  exact k1 _ M1 _ H1 F1 e1 ((rs.ext e1).set hl i r1) (by simpa using hl) S1 q

def gval {κ α : Type} [DecidableEq κ] (kvs : List (κ × α)) (k : κ) : Option α := match kvs with
  | [] => none
  | (n, v) :: r => if n = k then some v else gval r k
def gput {κ α : Type} [DecidableEq κ] (k : κ) (v : α) (kvs : List (κ × α)) : List (κ × α) :=
  if (kvs.any fun p => decide (p.1 = k)) = true then kvs.map (fun p => if p.1 = k then (p.1, v) else p) else kvs ++ [(k, v)]
def toKey : W → Option Key
  | .int i => some (.inl i)
  | .str x => some (.inr x)
  | _ => none
def toKeys : List W → Option (List Key)
  | [] => some []
  | w :: ws => match toKey w, toKeys ws with
    | some k, some ks => some (k :: ks)
    | _, _ => none
def toKeyT : W → Option (List Key)
  | .tup ws => toKeys ws
  | _ => none
def zipK {κ : Type} : List κ → List W → List (κ × W)
  | k :: ks, w :: ws => (k, w) :: zipK ks ws
  | _, _ => []
def dlook (M : Mh) (d k : W) : Option (Option W) := match d with
  | .dk ks ws => (toKey k).map fun k => gval (zipK ks ws) k
  | .ref a => match M a with
    | some (.dk kvs) => (toKey k).map fun k => gval kvs k
    | some (.lk kvs) => (toKey k).map fun k => gval kvs k
    | _ => none
  | _ => none
section
variable {F : Addr → Prop} {H : Hp} {M : Mh}
theorem toKey_ok {w : W} {v : V} {k : Key} (r : RW T F H w v) (h : toKey w = some k) : v = kV k := by
  cases w with
  | int i => cases h; exact RW.int_.mp r
  | str i => cases h; exact RW.str_.mp r
  | _ => cases h
theorem toKeys_ok : ∀ {ws : List W} {vs : List V} {ks : List Key}, RWs T F H ws vs → toKeys ws = some ks → vs = ks.map kV
  | [], _, _, r, h => by cases h; exact RWs.nil_.mp r
  | w :: ws, _, _, r, h => by
    obtain ⟨v, s, rfl, r1, r2⟩ := RWs.cons_.mp r
    unfold toKeys at h
    cases e1 : toKey w with
    | none => rw [e1] at h; cases h
    | some k => cases e2 : toKeys ws with
      | none => rw [e1, e2] at h; cases h
      | some ks =>
        rw [e1, e2] at h; cases h
        rw [toKey_ok r1 e1, toKeys_ok r2 e2]; rfl
theorem valV_cons {κ : Type} [DecidableEq κ] (n k : κ) (v : V) (r : List (κ × V)) : valV ((n, v) :: r) k = if n = k then some v else valV r k := by
  by_cases e : n = k
  · rw [if_pos e, valV_pos e]
  · rw [if_neg e, valV_neg e]
theorem RK.val {κ : Type} [DecidableEq κ] {k : κ} : ∀ {kvs : List (κ × W)} {us : List (κ × V)}, RK T F H kvs us → (∀ w, gval kvs k = some w → ∃ v, valV us k = some v ∧ RW T F H w v) ∧ (gval kvs k = none → valV us k = none)
  | [], _, h => by rw [show _ = _ from h]; exact ⟨fun _ q => by simp [gval] at q, fun _ => rfl⟩
  | (n, w) :: kvs, _, h => by
    obtain ⟨v, r, rfl, h1, h2⟩ := h
    have ih := RK.val (k := k) h2
    rw [valV_cons]
    unfold gval
    by_cases e : n = k
    · simp only [if_pos e]
      exact ⟨fun x q => by cases q; exact ⟨v, rfl, h1⟩, fun q => nomatch q⟩
    · simp only [if_neg e]
      exact ih
theorem RK.of_zip {κ : Type} : ∀ {us : List (κ × V)} {ws : List W}, RWs T F H ws (us.map (·.2)) → RK T F H (zipK (us.map (·.1)) ws) us
  | [], _, _ => rfl
  | (n, v) :: us, ws, h => by
    cases ws with
    | nil => have := h.length; simp at this
    | cons w ws =>
      obtain ⟨v', r, e, h1, h2⟩ := RWs.cons_.mp h
      rw [List.map_cons] at e
      injection e with e1 e2
      subst e1 e2
      exact ⟨_, _, rfl, h1, RK.of_zip h2⟩
theorem RK.of_ob {kvs : List (Key × W)} {a : Addr} (S : Sim T F H M) (h : M a = some (.dk kvs)) : ∃ us, H a = some (.dK us) ∧ RK T F H kvs us := by
  obtain ⟨_, ho, q, us, rfl, r⟩ := S.ob a _ h
  exact ⟨us, q, r⟩
theorem RK.of_obT {kvs : List (List Key × W)} {a : Addr} (S : Sim T F H M) (h : M a = some (.dt kvs)) : ∃ us, H a = some (.dT us) ∧ RK T F H kvs us := by
  obtain ⟨_, ho, q, us, rfl, r⟩ := S.ob a _ h
  exact ⟨us, q, r⟩
theorem dlook_ok (S : Sim T F H M) {d k : W} {x y : V} {o : Option W} (rd : RW T F H d x) (rk : RW T F H k y) (h : dlook M d k = some o) :
    ∃ a r, x = .ref a ∧ DGet H a y r ∧ (∀ w, o = some w → ∃ v, r = some v ∧ RW T F H w v) ∧ (o = none → r = none) := by
  have K1 : ∀ {a : Addr} {us : List (Key × V)} {kvs : List (Key × W)}, Rd H a (.dK us) → RK T F H kvs us → (toKey k).map (fun k => gval kvs k) = some o → ∃ r, DGet H a y r ∧ (∀ w, o = some w → ∃ v, r = some v ∧ RW T F H w v) ∧ (o = none → r = none) := fun {a us kvs} e r h => by
    cases q : toKey k with
    | none => rw [q] at h; cases h
    | some kk =>
      rw [q] at h; cases h
      rw [toKey_ok rk q]
      exact ⟨_, .inl ⟨us, kk, e, rfl, rfl⟩, fun w hw => (RK.val r).1 w hw, fun hw => (RK.val r).2 hw⟩
  cases d with
  | dk ks ws =>
    obtain ⟨a, us, rfl, _, e, rfl, r⟩ := RW.dk_.mp rd
    obtain ⟨q, h1, h2, h3⟩ := K1 (.inl e) (.of_zip r) h
    exact ⟨a, q, rfl, h1, h2, h3⟩
  | ref a =>
    unfold dlook at h
    simp only at h
    cases e : M a with
    | none => rw [e] at h; cases h
    | some ob => cases ob with
      | dk kvs =>
        rw [e] at h
        obtain ⟨us, q1, q2⟩ := RK.of_ob S e
        obtain ⟨q, h1, h2, h3⟩ := K1 (.inl q1) q2 h
        exact ⟨a, q, RW.ref_.mp rd, h1, h2, h3⟩
      | lk kvs =>
        rw [e] at h
        obtain ⟨_, ho, q0, od, us, rfl, q2⟩ := S.ob a _ e
        obtain ⟨q, h1, h2, h3⟩ := K1 (.inr ⟨od, q0⟩) q2 h
        exact ⟨a, q, RW.ref_.mp rd, h1, h2, h3⟩
      | dt kvs => rw [e] at h; cases h
      | lkt kvs => rw [e] at h; cases h
      | lst _ => rw [e] at h; cases h
      | ins _ _ => rw [e] at h; cases h
  | _ => cases h
theorem RK.any {κ : Type} [DecidableEq κ] {k : κ} : ∀ {kvs : List (κ × W)} {us : List (κ × V)}, RK T F H kvs us → (kvs.any fun p => decide (p.1 = k)) = us.any fun p => decide (p.1 = k)
  | [], _, h => by rw [show _ = _ from h]; rfl
  | (n, w) :: kvs, _, h => by
    obtain ⟨v, r, rfl, _, h2⟩ := h
    rw [List.any_cons, List.any_cons, RK.any h2]
theorem RK.repl {κ : Type} [DecidableEq κ] {k : κ} {w : W} {v : V} (r0 : RW T F H w v) : ∀ {kvs : List (κ × W)} {us : List (κ × V)}, RK T F H kvs us → RK T F H (kvs.map fun p => if p.1 = k then (p.1, w) else p) (us.map fun p => if p.1 = k then (p.1, v) else p)
  | [], _, h => by rw [show _ = _ from h]; rfl
  | (n, w') :: kvs, _, h => by
    obtain ⟨v', r, rfl, h1, h2⟩ := h
    rw [List.map_cons, List.map_cons]
    by_cases e : n = k
    · simp only [if_pos e]; exact ⟨v, _, rfl, r0, RK.repl r0 h2⟩
    · simp only [if_neg e]; exact ⟨v', _, rfl, h1, RK.repl r0 h2⟩
theorem RK.snoc {κ : Type} {k : κ} {w : W} {v : V} (r0 : RW T F H w v) : ∀ {kvs : List (κ × W)} {us : List (κ × V)}, RK T F H kvs us → RK T F H (kvs ++ [(k, w)]) (us ++ [(k, v)])
  | [], _, h => by rw [show _ = _ from h]; exact ⟨v, [], rfl, r0, rfl⟩
  | (n, w') :: kvs, _, h => by
    obtain ⟨v', r, rfl, h1, h2⟩ := h
    exact ⟨v', _, rfl, h1, RK.snoc r0 h2⟩
theorem RK.put {κ : Type} [DecidableEq κ] {k : κ} {w : W} {v : V} (r0 : RW T F H w v) {kvs : List (κ × W)} {us : List (κ × V)} (r : RK T F H kvs us) : RK T F H (gput k w kvs) (putK us k v) := by
  unfold gput putK
  rw [r.any]
  split
  · exact r.repl r0
  · exact r.snoc r0
theorem RK.len {κ : Type} : ∀ {kvs : List (κ × W)} {us : List (κ × V)}, RK T F H kvs us → kvs.length = us.length
  | [], _, h => by rw [show _ = _ from h]; rfl
  | (n, w') :: kvs, _, h => by
    obtain ⟨v', r, rfl, h1, h2⟩ := h
    rw [List.length_cons, List.length_cons, RK.len h2]
end
def dDget (τd τk : DE) : DE := fun σ M Q Ex => τd σ M (fun d M1 => τk σ M1 (fun k M2 => ∃ w, dlook M2 d k = some (some w) ∧ Q w M2) Ex) Ex
theorem noSl_of {b : Expr} (h : plainIx b = true) : NoSl b := by
  intro o i
  cases b <;> first | rfl | cases h
theorem ae_dget {o i : Expr} {τd τk : DE} {pos : Pos} (hu : X.A.units + 1 < cLine) (ho : PE X o (cE T E τd)) (hi : PE X i (cE T E τk)) (hs : plainIx i = true) : PE X (.Subscript o i pos) (cE T E (dDget τd τk)) := PE.imp (pe_dget hu ho hi (noSl_of hs)) fun σ H Q q => by
  obtain ⟨F, σw, M, Qw, Ew, rs, S, t, kq, kx⟩ := q
  refine ⟨F, σw, M, _, Ew, rs, S, t, fun d M1 x H1 F1 e1 r1 S1 q => ?_, kx⟩
  refine ⟨F1, σw, M1, _, Ew, rs.ext e1, S1, q, fun k M2 y H2 F2 e2 r2 S2 ⟨w, h1, q'⟩ => ?_, kx.ext e1⟩
  obtain ⟨a, r, rfl, g, h2, _⟩ := dlook_ok S2 (r1.ext e2) r2 h1
  obtain ⟨v, rfl, h3⟩ := h2 w rfl
  exact ⟨a, v, rfl, g, kq _ _ _ _ _ (e1.trans e2) h3 S2 q'⟩
def dDin (neg : Bool) (τk τd : DE) : DE := fun σ M Q Ex => τk σ M (fun k M1 => τd σ M1 (fun d M2 => ∃ o, dlook M2 d k = some o ∧ Q (.bl (if neg then !o.isSome else o.isSome)) M2) Ex) Ex
theorem isSome_of {F : Addr → Prop} {H : Hp} {o : Option W} {r : Option V} (h2 : ∀ w, o = some w → ∃ v, r = some v ∧ RW T F H w v) (h3 : o = none → r = none) : r.isSome = o.isSome := by
  cases o with
  | none => rw [h3 rfl]; rfl
  | some w => obtain ⟨v, rfl, _⟩ := h2 w rfl; rfl
theorem ce_din {neg : Bool} {τk τd : DE} {σ : L2.St} {H : Hp} {Q : VK} (q : cE T E (dDin neg τk τd) σ H Q) : cE T E τk σ H fun y H1 => cE T E τd σ H1 fun x H2 => ∃ a o, x = .ref a ∧ DGet H2 a y o ∧ Q (.bl (if neg then !o.isSome else o.isSome)) H2 := by
  obtain ⟨F, σw, M, Qw, Ew, rs, S, t, kq, kx⟩ := q
  refine ⟨F, σw, M, _, Ew, rs, S, t, fun k M1 y H1 F1 e1 r1 S1 q => ?_, kx⟩
  refine ⟨F1, σw, M1, _, Ew, rs.ext e1, S1, q, fun d M2 x H2 F2 e2 r2 S2 ⟨o, h1, q'⟩ => ?_, kx.ext e1⟩
  obtain ⟨a, r, rfl, g, h2, h3⟩ := dlook_ok S2 r2 (r1.ext e2) h1
  refine ⟨a, r, rfl, g, ?_⟩
  rw [isSome_of h2 h3]
  exact kq _ _ _ _ _ (e1.trans e2) (RW.bl_.mpr rfl) S2 q'
theorem ac_din {i o : Expr} {τk τd : DE} (hu : X.A.units + 1 < cLine) (hi : PE X i (cE T E τk)) (ho : PE X o (cE T E τd)) : PC X .In i o (cE T E (dDin false τk τd)) := ⟨fun pins s σ H Q I q => (pc_din hu hi ho).run pins s σ H Q I (ce_din q)⟩
theorem ac_dnotin {i o : Expr} {τk τd : DE} (hu : X.A.units + 1 < cLine) (hi : PE X i (cE T E τk)) (ho : PE X o (cE T E τd)) : PC X .NotIn i o (cE T E (dDin true τk τd)) := ⟨fun pins s σ H Q I q => (pc_dnotin hu hi ho).run pins s σ H Q I (ce_din q)⟩
theorem ct_pc {op : CmpOp} {a b : Expr} {pos : Pos} {τ : DE} (h : PC X op a b (cE T E τ)) (hm : behindInMarks op b = false) : PT X (.Compare a [op] [b] pos) (cT T E (dB τ)) := PT.imp (pt_cmp h hm) fun σ H Q q => ct_bl (t := cE T E τ) (fun _ _ _ x => x) q
def dputW (x k y : W) (M : Mh) (R : Mh → Prop) : Prop := ∃ a kvs kk, x = .ref a ∧ toKey k = some kk ∧ M a = some (.dk kvs) ∧ kvs.length < sizeLine ∧ R (mup M a (.dk (gput kk y kvs)))
def dDput (τd τk τ : DE) : DS := fun D σ M => τ σ M (fun y M1 => τd σ M1 (fun x M2 => τk σ M2 (fun k M3 => dputW x k y M3 fun M4 => D.nx σ M4) D.ex) D.ex) D.ex
theorem as_dput {o i e : Expr} {τd τk τ : DE} {p pos : Pos} (hu : X.A.units + 1 < cLine) (ho : PE X o (cE T E τd)) (hi : PE X i (cE T E τk)) (he : PE X e (cE T E τ)) (hs : swapsWith e (some (.Subscript o i p)) pos.line X.env = pure false) :
    PS X (.Assign [.Subscript o i p] e pos) (cS T E (dDput τd τk τ)) := PS.imp (ps_dput hu ho hi he hs) fun D σ H q => by
  obtain ⟨F, σw, M, Dv, rs, hl, S, t, k1, k2, k3, k4, kx⟩ := q
  refine ⟨F, σw, M, _, Dv.ex, rs, S, t, fun y M1 u H1 F1 e1 r1 S1 q => ?_, kx⟩
  refine ⟨F1, σw, M1, _, Dv.ex, rs.ext e1, S1, q, fun x M2 v H2 F2 e2 r2 S2 q => ?_, kx.ext e1⟩
  refine ⟨F2, σw, M2, _, Dv.ex, (rs.ext e1).ext e2, S2, q, fun k M3 v3 H3 F3 e3 r3 S3 q => ?_, (kx.ext e1).ext e2⟩
  obtain ⟨a, kvs, kk, ex, h0, h1, h2, q'⟩ := q
  subst ex
  obtain ⟨us, h3, h4⟩ := RK.of_ob S3 h1
  obtain ⟨e4, S4⟩ := S3.put (o := .dK (putK us kk u)) (u := .dk (gput kk y kvs)) h1 ⟨_, rfl, h4.put ((r1.ext e2).ext e3)⟩
  have e := ((e1.trans e2).trans e3).trans e4
  refine ⟨a, _, RW.ref_.mp r2, ?_, k1 _ _ _ _ _ e (rs.ext e) hl S4 q'⟩
  rw [toKey_ok r3 h0]
  exact .k h3 (by rw [← h4.len]; exact h2)
def dDnew : DE := fun _ M Q _ => ∀ p, M p = none → Q (.ref p) (mup M p (.dk []))
theorem ae_dnew {pos : Pos} : PE X (.Dict [] [] pos) (cE T E dDnew) := PE.imp pe_dnewK fun σ H Q q => by
  obtain ⟨F, σw, M, Qw, Ew, rs, S, t, kq, kx⟩ := q
  intro p hp
  obtain ⟨e, S'⟩ := S.newM (o := .dK []) (u := .dk []) hp ⟨[], rfl, rfl⟩
  exact kq _ _ _ _ _ e (RW.ref_.mpr rfl) S' (t p (S.fresh hp).1)
def tlook : List (Str × W) → Str → Option W
  | [], _ => none
  | (n, w) :: r, z => if z = n then some w else tlook r z
def KdF (T : Tb) (X : Cx) (x : Str) (tbl : List (Str × W)) : Prop := ∃ d es n, X.mg x = some (.ref d) ∧ KDict X.K X.w d es n ∧
  ∀ z, ∃ r, PySem.W.nsIn X.K d z = some r ∧ (∀ w, tlook tbl z = some w → ∃ u v, r = some u ∧ RelV v u ∧ ∀ F H, RW T F H w v) ∧ (tlook tbl z = none → r = none)
def dKidx (tbl : List (Str × W)) (τ : DE) : DE := fun σ M Q Ex => τ σ M (fun k M1 => ∃ z w, k = .str z ∧ tlook tbl z = some w ∧ Q w M1) Ex
theorem ae_kidx {x : Str} {tbl : List (Str × W)} {i : Expr} {τ : DE} {p pos : Pos} (h : KdF T X x tbl) (hg : Gl X x) (hn : okName x = true) (hi : PE X i (cE T E τ)) (hs : plainIx i = true) : PE X (.Subscript (.Name x p) i pos) (cE T E (dKidx tbl τ)) := by
  obtain ⟨d, es, n, hm, D, hk⟩ := h
  refine PE.imp (pe_ix ix_kdict (pe_glob (v := .ref d) hg hm rfl (okName_of hn).1) hi (ix_of hs)) fun σ H Q q => ?_
  obtain ⟨F, σw, M, Qw, Ew, rs, S, t, kq, kx⟩ := q
  refine ⟨F, σw, M, _, Ew, rs, S, t, fun k M1 y H1 F1 e1 r1 S1 ⟨z, w, ek, h1, q⟩ => ?_, kx⟩
  subst ek
  obtain ⟨r, h2, h3, _⟩ := hk z
  obtain ⟨u, v, rfl, h4, h5⟩ := h3 w h1
  exact ⟨d, z, v, rfl, RW.str_.mp r1, ⟨es, n, u, D.at_, D.lit, h2, h4⟩, kq _ _ _ _ _ e1 (h5 _ _) S1 q⟩
def dKin (neg : Bool) (tbl : List (Str × W)) (τ : DE) : DE := fun σ M Q Ex => τ σ M (fun k M1 => ∃ z, k = .str z ∧ Q (.bl (if neg then !(tlook tbl z).isSome else (tlook tbl z).isSome)) M1) Ex
theorem ce_kin {neg : Bool} {x : Str} {tbl : List (Str × W)} {τ : DE} {d : Addr} (hk : ∀ z, ∃ r, PySem.W.nsIn X.K d z = some r ∧ (∀ w, tlook tbl z = some w → ∃ u v, r = some u ∧ RelV v u ∧ ∀ F H, RW T F H w v) ∧ (tlook tbl z = none → r = none)) {σ : L2.St} {H : Hp} {Q : VK} (q : cE T E (dKin neg tbl τ) σ H Q) :
    tOp (fun x y H Q => ∃ (z : Str) (r : Option Value), x = .str z ∧ y = .ref d ∧ PySem.W.nsIn X.K d z = some r ∧ Q (.bl (if neg then !r.isSome else r.isSome)) H) (cE T E τ) (tC (.ref d)) σ H Q := by
  obtain ⟨F, σw, M, Qw, Ew, rs, S, t, kq, kx⟩ := q
  refine ⟨F, σw, M, _, Ew, rs, S, t, fun k M1 y H1 F1 e1 r1 S1 ⟨z, ek, q⟩ => ?_, kx⟩
  subst ek
  obtain ⟨r, h2, h3, h4⟩ := hk z
  refine ⟨z, r, RW.str_.mp r1, rfl, h2, ?_⟩
  have : r.isSome = (tlook tbl z).isSome := by
    cases e : tlook tbl z with
    | none => rw [h4 e]; rfl
    | some w => obtain ⟨u, v, rfl, _⟩ := h3 w e; rfl
  rw [this]
  exact kq _ _ _ _ _ e1 (RW.bl_.mpr rfl) S1 q
theorem ae_kin {x : Str} {tbl : List (Str × W)} {a : Expr} {τ : DE} {p pos : Pos} (h : KdF T X x tbl) (hg : Gl X x) (hn : okName x = true) (ha : PE X a (cE T E τ)) : PE X (.Compare a [.In] [.Name x p] pos) (cE T E (dKin false tbl τ)) := by
  obtain ⟨d, es, n, hm, D, hk⟩ := h
  exact PE.imp (pe_cmpR (op_in_kd D) ha (pe_glob (v := .ref d) hg hm rfl (okName_of hn).1) rfl) fun σ H Q q => ce_kin (x := x) hk q
theorem ae_knotin {x : Str} {tbl : List (Str × W)} {a : Expr} {τ : DE} {p pos : Pos} (h : KdF T X x tbl) (hg : Gl X x) (hn : okName x = true) (ha : PE X a (cE T E τ)) : PE X (.Compare a [.NotIn] [.Name x p] pos) (cE T E (dKin true tbl τ)) := by
  obtain ⟨d, es, n, hm, D, hk⟩ := h
  exact PE.imp (pe_cmpR (op_notIn_kd D) ha (pe_glob (v := .ref d) hg hm rfl (okName_of hn).1) rfl) fun σ H Q q => ce_kin (x := x) hk q
theorem at_kin {x : Str} {tbl : List (Str × W)} {a : Expr} {τ : DE} {p pos : Pos} (h : KdF T X x tbl) (hg : Gl X x) (hn : okName x = true) (ha : PE X a (cE T E τ)) : PT X (.Compare a [.In] [.Name x p] pos) (cT T E (dB (dKin false tbl τ))) := by
  obtain ⟨d, es, n, hm, D, hk⟩ := h
  exact PT.imp (pt_cmpR (op_in_kd D) ha (pe_glob (v := .ref d) hg hm rfl (okName_of hn).1) rfl) fun σ H Q q => ct_bl (fun _ _ _ q => ce_kin (x := x) hk q) q
theorem at_knotin {x : Str} {tbl : List (Str × W)} {a : Expr} {τ : DE} {p pos : Pos} (h : KdF T X x tbl) (hg : Gl X x) (hn : okName x = true) (ha : PE X a (cE T E τ)) : PT X (.Compare a [.NotIn] [.Name x p] pos) (cT T E (dB (dKin true tbl τ))) := by
  obtain ⟨d, es, n, hm, D, hk⟩ := h
  exact PT.imp (pt_cmpR (op_notIn_kd D) ha (pe_glob (v := .ref d) hg hm rfl (okName_of hn).1) rfl) fun σ H Q q => ct_bl (fun _ _ _ q => ce_kin (x := x) hk q) q
def dKget (tbl : List (Str × W)) (τ : DE) : DE := fun σ M Q Ex => τ σ M (fun k M1 => ∃ z, k = .str z ∧ Q ((tlook tbl z).getD .non) M1) Ex
theorem ae_kget {x : Str} {tbl : List (Str × W)} {e : Expr} {τ : DE} {p apos pos : Pos} (h : KdF T X x tbl) (hg : Gl X x) (hn : okName x = true) (he : PE X e (cE T E τ)) (hs : noStar e = true) (hl : (apos.endLine == pos.line) = true) :
    PE X (.Call (.Attribute (.Name x p) "get" apos) [e] [] pos) (cE T E (dKget tbl τ)) := by
  obtain ⟨d, es, n, hm, D, hk⟩ := h
  have hall : [e].all noStar = true := by simp [hs]
  refine ⟨fun pins s σ H Q I q => ?_⟩
  have hfew : ((backTo pos (starEach [e] X.env)).all (fun x => !x.1) && (backToKw pos (keywordEach [] X.env)).all (fun x => x.1.isSome)
    && decide (([e] : List Expr).length + ([] : List Keyword).length + (if ([] : List Keyword).isEmpty then 0 else 1) < 30)) = true := by
    rw [star_every hall]; rfl
  have htr : backTo pos (starEach [e] X.env) = [(false, eval e X.env)] := by rw [star_cons hs]; rfl
  refine wpAny_Call_method (base_of rfl) hfew hl PySem.F.plainAttrs_dict PySem.F.slot_dict_get PySem.F.type_dict_get (ld_glob I hg hm ?_ (okName_of hn).1)
  have dd := PySem.W.mapOf_K (prog := X.prog) (w := X.w) I.kIn D.at_ D.lit
  refine ⟨kd_type D I, fun b q => ?_, ?_⟩
  · cases q
    exact ⟨_, I.kIn _ _ D.at_, rfl⟩
  rw [htr]
  refine Calls.callWith_builtin rfl (Calls.evalArgs_plain (Calls.spliced_cons ?_))
  have hq : cE T E τ σ H fun y H1 => ∃ z, y = .str z ∧ ∃ r v, PySem.W.nsIn X.K d z = some r ∧ RelV v (r.getD .none) ∧ Q v H1 := by
    obtain ⟨F, σw, M, Qw, Ew, rs, S, t, kq, kx⟩ := q
    refine ⟨F, σw, M, _, Ew, rs, S, t, fun k M1 y H1 F1 e1 r1 S1 ⟨z, ek, q⟩ => ?_, kx⟩
    subst ek
    obtain ⟨r, h2, h3, h4⟩ := hk z
    refine ⟨z, RW.str_.mp r1, ?_⟩
    cases e : tlook tbl z with
    | none =>
      rw [e] at q
      exact ⟨none, .non, by rw [← h4 e]; exact h2, rfl, kq _ _ _ _ _ e1 (RW.non_.mpr rfl) S1 q⟩
    | some w =>
      obtain ⟨u, v, rfl, h5, h6⟩ := h3 w e
      rw [e] at q
      exact ⟨some u, v, h2, h5, kq _ _ _ _ _ e1 (h6 _ _) S1 q⟩
  refine thn (he.run pins _ σ H _ I hq) fun u s2 ⟨y, H2, I2, ry, z, ez, r, v, h2, hv, hQ⟩ => Calls.spliced_nil ?_
  subst ez
  obtain ⟨t, rfl⟩ := ry
  have dd2 := PySem.W.mapOf_K (prog := X.prog) (w := X.w) I2.kIn D.at_ D.lit
  refine call_meetsIn PySem.F.slot_dict_get (kd_type D I2) PySem.F.entry_dict_get (PySem.F.args_dict_get_2 _ _) (meets_dict_get (PySem.strKind X.prog X.w) d (PySem.strKind_is X.prog X.w z t) D.low) ⟨_, dd2, ?_⟩
  rw [PySem.W.find_K D.at_ h2]
  exact ⟨v, H2, I2.tok _, hv, hQ⟩
def dRev (own : Bool) (τ : DE) : DE := fun σ M Q Ex => τ σ M (fun x M1 => ∃ ws, lv M1 x = some ws ∧ newL own ws.reverse M1 Q) Ex
theorem ae_rev {own : Bool} {e : Expr} {τ : DE} {k : Nat} {p1 p2 p3 pos : Pos} (hK : X.K = T.K) (he : PE X e (cE T E τ)) : PE X (.Subscript e (.Slice none none (some (.UnaryOp .USub (.Constant (.int 1) k p1) p2)) p3) pos) (cE T E (dRev own τ)) :=
  PE.imp (pe_revL he) fun σ H Q q => by
  rw [hK]
  obtain ⟨F, σw, M, Qw, Ew, rs, S, t, kq, kx⟩ := q
  refine ⟨F, σw, M, _, Ew, rs, S, t, fun x M1 v H1 F1 e1 r1 S1 ⟨ws, h1, q⟩ => ?_, kx⟩
  obtain ⟨a, vs, rfl, h2, r2⟩ := lv_ok S1 r1 h1
  exact ⟨a, vs, rfl, .of h2, (KQ.of kq e1).newL S1 r2.reverse q⟩
def dLrg (own : Bool) (τ : DE) : DE := fun σ M Q Ex => τ σ M (fun x M1 => ∃ j, x = .int j ∧ 0 ≤ j ∧ j ≤ 16777216 ∧ newL own (rangeL 0 j) M1 Q) Ex
theorem rws_rg {F : Addr → Prop} {H : Hp} {a b : Int} : RWs T F H (rangeL a b) (rgV a b) := by
  unfold rangeL rgV
  generalize List.range (b - a).toNat = l
  induction l with
  | nil => exact .nil
  | cons i l ih => exact .cons (RW.int_.mpr rfl) ih
theorem ae_lrg {own : Bool} {e : Expr} {τ : DE} {p p2 pos pos2 : Pos} (hc : X.calm = true) (hg : Gl X "list") (hm : X.mg "list" = none) (hg2 : Gl X "range") (hm2 : X.mg "range" = none) (he : PE X e (cE T E τ)) (hs : noStar e = true) :
    PE X (.Call (.Name "list" p) [.Call (.Name "range" p2) [e] [] pos2] [] pos) (cE T E (dLrg own τ)) :=
  PE.imp (pe_listRg hc hg hm (prg_1 hg2 hm2 he (star_cons hs)) (star_cons rfl)) fun σ H Q q => by
  obtain ⟨F, σw, M, Qw, Ew, rs, S, t, kq, kx⟩ := q
  refine ⟨F, σw, M, _, Ew, rs, S, t, fun x M1 v H1 F1 e1 r1 S1 ⟨j, ej, h0, h1, q⟩ => ?_, kx⟩
  subst ej
  exact ⟨j, RW.int_.mp r1, RgOk.of_le (by omega) h1 (by omega) h0, (KQ.of kq e1).newL S1 rws_rg q⟩
theorem Sim.junk {F : Addr → Prop} {H : Hp} {M : Mh} (S : Sim T F H M) {p : Addr} {o : HO} (h : H p = none) : Ext F H F (upd H p o) ∧ Sim T F (upd H p o) M := by
  have n1 := S.fresh h
  have e1 := ext_new (o := o) h n1.2
  refine ⟨e1, ⟨fun a u q => ?_, fun a f => ?_, S.tk.new h⟩⟩
  · obtain ⟨f, ho, q1, q2⟩ := S.ob a u q
    exact ⟨f, ho, by rw [upd_ne (m_ne q n1.1)]; exact q1, q2.ext e1⟩
  · obtain ⟨ho, q1, q2⟩ := S.fz a f
    exact ⟨ho, by rw [(e1.fz a f).2]; exact q1, q2⟩
def rSetI (K : PySem.W.Frag) (w : World) : List V → Hp → VK → Prop := fun xs H Q => ∃ (l : Addr) (ns : List Int), xs = [V.ref l] ∧ (SqL K H l (ns.map V.int) ∨ SqT K H l (ns.map V.int)) ∧ ns.length < 64 ∧
  ∀ a n, H a = none → n ≤ ns.length → Q (.ref a) (upd H a (SetO w a (fun j => decide (j ∈ ns)) n))
theorem cr_setI (hc : X.calm = true) : CallR X (.type "set") (rSetI X.K X.w) := by
  intro pins s σ H xs us Q I r h
  obtain ⟨l, ns, rfl, hl, hf, q⟩ := h
  rw [Vals.ref1 r]
  have hn : H s.heap.objs.size = none := I.hok.fresh (Nat.le_refl _)
  rcases hl with hl | hl
  · obtain ⟨its, rv, ⟨o0, n0, p1, p2, p3, p4⟩, hz⟩ := I.list hl
    have hi : IntsAre its.toArray.toList ns := ints_of_vals rv
    refine set_of_listI ns (I.ok.hd hc) (⟨o0, p1, p2, n0, p4⟩ : s.heap.IsList l its.toArray) hi (by unfold scanBound; omega) fun h' tk c R hcn k => ?_
    exact ⟨.ref s.heap.objs.size, upd H s.heap.objs.size (SetO X.w s.heap.objs.size (fun j => decide (j ∈ ns)) c), I.laid (t' := tk) k (Nat.le_refl _) (setO_new R), rfl, q _ c hn hcn⟩
  · obtain ⟨its, rv, pt, hz⟩ := I.tuple hl
    have hi : IntsAre its.toArray.toList ns := ints_of_vals rv
    refine call_set_tupI ns (I.ok.hd hc) (show s.heap.IsTuple l its.toArray from pt) hi (by unfold scanBound; omega) fun h' tk c R hcn k => ?_
    exact ⟨.ref s.heap.objs.size, upd H s.heap.objs.size (SetO X.w s.heap.objs.size (fun j => decide (j ∈ ns)) c), I.laid (t' := tk) k (Nat.le_refl _) (setO_new R), rfl, q _ c hn hcn⟩
def dSset (own : Bool) (τ : DE) : DE := fun σ M Q Ex => τ σ M (fun x M1 => ∃ ns : List Int, sv M1 x = some (ns.map W.int) ∧ ns.length < 64 ∧
  ∀ out : List Int, out.Pairwise (· < ·) → (∀ k, k ∈ out ↔ k ∈ ns) → newL own (out.map W.int) M1 Q) Ex
theorem ints_rw {F : Addr → Prop} {H : Hp} : ∀ out : List Int, RWs T F H (out.map W.int) (out.map V.int)
  | [] => .nil
  | _ :: ns => .cons (RW.int_.mpr rfl) (ints_rw ns)
theorem ae_sset {own : Bool} {e : Expr} {τ : DE} {p p2 pos pos2 : Pos} (hK : X.K = T.K) (hc : X.calm = true) (hg : Gl X "sorted") (hm : X.mg "sorted" = none) (hg2 : Gl X "set") (hm2 : X.mg "set" = none) (he : PE X e (cE T E τ)) (hs : noStar e = true) :
    PE X (.Call (.Name "sorted" p) [.Call (.Name "set" p2) [e] [] pos2] [] pos) (cE T E (dSset own τ)) := by
  have hset := pe_callTy (pos := pos2) (p := p2) (cr_setI hc) hg2 hm2 PyProof.Rows.boot_set (pa_cons he pa_nil (star_cons hs)) (by decide) (by decide) (star_cons hs) (star_any rfl)
  refine PE.imp (pe_callB (cr_sortedSet hc) hg hm (by decide +kernel) (pa_cons hset pa_nil (star_cons rfl)) (by decide) (by decide) (star_cons rfl) (star_any rfl)) fun σ H Q q => ?_
  obtain ⟨F, σw, M, Qw, Ew, rs, S, t, kq, kx⟩ := q
  refine ⟨F, σw, M, _, Ew, rs, S, t, fun x M1 v H1 F1 e1 r1 S1 ⟨ns, ex, hl, q⟩ => ?_, kx⟩
  obtain ⟨a, vs, rfl, h2, r2⟩ := sv_ok S1 r1 ex
  rw [r2.ints, ← hK] at h2
  refine ⟨a, ns, rfl, h2, hl, fun b n hb hn => ?_⟩
  refine ⟨b, _, n, rfl, upd_same, by omega, fun out p hp hmem _ hnp => ?_⟩
  have hm' : ∀ k, k ∈ out ↔ k ∈ ns := fun k => by rw [hmem k]; simp
  have nb : p ≠ b := fun z => by rw [z, upd_same] at hnp; cases hnp
  rw [upd_ne nb] at hnp
  obtain ⟨e2, S2⟩ := S1.junk (o := SetO X.w b (fun j => decide (j ∈ ns)) n) hb
  exact (KQ.of kq (e1.trans e2)).newL S2 (ints_rw out) (q out hp hm') p (by rw [upd_ne nb]; exact hnp)
end WL
namespace WL
open PySem PySem.Spec PyProof.Rows L2
variable {T : Tb} {X : Cx} {E : XK}
mutual
inductive Frz (M : Mh) : W → W → List Addr → Prop
  | keep {w : W} : Frz M w w []
  | lst {a : Addr} {ws us : List W} {l : List Addr} (h : M a = some (.lst ws)) (hs : FrzL M ws us l) : Frz M (.ref a) (.lst us) (a :: l)
  | dk {a : Addr} {kvs : List (Key × W)} {ks : List Key} {us : List W} {l : List Addr} (h : M a = some (.dk kvs)) (hk : ks = kvs.map (·.1)) (hs : FrzL M (kvs.map (·.2)) us l) : Frz M (.ref a) (.dk ks us) (a :: l)
  | dt {a : Addr} {kvs : List (List Key × W)} {ks : List (List Key)} {us : List W} {l : List Addr} (h : M a = some (.dt kvs)) (hk : ks = kvs.map (·.1)) (hs : FrzL M (kvs.map (·.2)) us l) : Frz M (.ref a) (.dt ks us) (a :: l)
  | ins {a : Addr} {c : Nat} {fs : List (Str × W)} {ns : List Str} {us : List W} {l : List Addr} (h : M a = some (.ins c fs)) (hk : ns = fs.map (·.1)) (hs : FrzL M (fs.map (·.2)) us l) : Frz M (.ref a) (.obj c ns us) (a :: l)
  | tup {ws us : List W} {l : List Addr} (hs : FrzL M ws us l) : Frz M (.tup ws) (.tup us) l
  | flst {ws us : List W} {l : List Addr} (hs : FrzL M ws us l) : Frz M (.lst ws) (.lst us) l
inductive FrzL (M : Mh) : List W → List W → List Addr → Prop
  | keep {ws : List W} : FrzL M ws ws []
  | nil : FrzL M [] [] []
  | cons {w u : W} {ws us : List W} {l l' : List Addr} (h : Frz M w u l) (hs : FrzL M ws us l') : FrzL M (w :: ws) (u :: us) (l ++ l')
end
def mdelL (M : Mh) (l : List Addr) : Mh := fun b => if b ∈ l then none else M b
theorem RK.names2 {κ : Type} {F : Addr → Prop} {H : Hp} : ∀ {fs : List (κ × W)} {us : List (κ × V)}, RK T F H fs us → fs.map (·.1) = us.map (·.1)
  | [], _, h => by rw [show _ = _ from h]; rfl
  | (n, w) :: fs, _, h => by
    obtain ⟨v, r, rfl, _, h2⟩ := h
    rw [List.map_cons, List.map_cons, RK.names2 h2]
theorem RK.vals2 {κ : Type} {F : Addr → Prop} {H : Hp} : ∀ {fs : List (κ × W)} {us : List (κ × V)}, RK T F H fs us → RWs T F H (fs.map (·.2)) (us.map (·.2))
  | [], _, h => by rw [show _ = _ from h]; exact .nil
  | (n, w) :: fs, _, h => by
    obtain ⟨v, r, rfl, h1, h2⟩ := h
    exact .cons h1 (RK.vals2 h2)
mutual
theorem Frz.was {M : Mh} : ∀ {w w' : W} {l : List Addr}, Frz M w w' l → ∀ b ∈ l, ∃ o, M b = some o ∧ notLk o = true
  | _, _, _, .keep, b, hb => by simp at hb
  | _, _, _, .lst h hs, b, hb => by
    rcases List.mem_cons.mp hb with rfl | hb
    · exact ⟨_, h, rfl⟩
    · exact FrzL.was hs b hb
  | _, _, _, .dk h _ hs, b, hb => by
    rcases List.mem_cons.mp hb with rfl | hb
    · exact ⟨_, h, rfl⟩
    · exact FrzL.was hs b hb
  | _, _, _, .dt h _ hs, b, hb => by
    rcases List.mem_cons.mp hb with rfl | hb
    · exact ⟨_, h, rfl⟩
    · exact FrzL.was hs b hb
  | _, _, _, .ins h _ hs, b, hb => by
    rcases List.mem_cons.mp hb with rfl | hb
    · exact ⟨_, h, rfl⟩
    · exact FrzL.was hs b hb
  | _, _, _, .tup hs, b, hb => FrzL.was hs b hb
  | _, _, _, .flst hs, b, hb => FrzL.was hs b hb
theorem FrzL.was {M : Mh} : ∀ {ws us : List W} {l : List Addr}, FrzL M ws us l → ∀ b ∈ l, ∃ o, M b = some o ∧ notLk o = true
  | _, _, _, .keep, b, hb => by simp at hb
  | _, _, _, .nil, b, hb => by simp at hb
  | _, _, _, .cons h hs, b, hb => by
    rcases List.mem_append.mp hb with hb | hb
    · exact Frz.was h b hb
    · exact FrzL.was hs b hb
end
mutual
theorem Frz.rw {F G : Addr → Prop} {H : Hp} {M : Mh} (S : Sim T F H M) (e : Ext F H G H) : ∀ {w w' : W} {l : List Addr}, Frz M w w' l → (∀ b ∈ l, G b) → ∀ {v}, RW T F H w v → RW T G H w' v
  | _, _, _, .keep, _, v, r => r.ext e
  | _, _, _, .lst (a := a) h hs, hl, v, r => by
    rw [RW.ref_.mp r]
    obtain ⟨_, ho, q1, vs, rfl, q2⟩ := S.ob _ _ h
    exact RW.lst_.mpr ⟨a, vs, rfl, hl a (by simp), q1, FrzL.rw S e hs (fun b hb => hl b (List.mem_cons_of_mem _ hb)) q2⟩
  | _, _, _, .dk (a := a) h hk hs, hl, v, r => by
    rw [RW.ref_.mp r]
    obtain ⟨_, ho, q1, vs, rfl, q2⟩ := S.ob _ _ h
    exact RW.dk_.mpr ⟨a, vs, rfl, hl a (by simp), q1, hk.trans q2.names2, FrzL.rw S e hs (fun b hb => hl b (List.mem_cons_of_mem _ hb)) q2.vals2⟩
  | _, _, _, .dt (a := a) h hk hs, hl, v, r => by
    rw [RW.ref_.mp r]
    obtain ⟨_, ho, q1, vs, rfl, q2⟩ := S.ob _ _ h
    exact RW.dt_.mpr ⟨a, vs, rfl, hl a (by simp), q1, hk.trans q2.names2, FrzL.rw S e hs (fun b hb => hl b (List.mem_cons_of_mem _ hb)) q2.vals2⟩
  | _, _, _, .ins (a := a) h hk hs, hl, v, r => by
    rw [RW.ref_.mp r]
    obtain ⟨_, ho, q1, dx, vs, rfl, q2⟩ := S.ob _ _ h
    exact RW.obj_.mpr ⟨a, dx, vs, rfl, hl a (by simp), q1, hk.trans q2.names, FrzL.rw S e hs (fun b hb => hl b (List.mem_cons_of_mem _ hb)) q2.vals⟩
  | _, _, _, .tup hs, hl, v, r => by
    obtain ⟨a, vs, rfl, h1, h2⟩ := RW.tup_.mp r
    exact RW.tup_.mpr ⟨a, vs, rfl, h1, FrzL.rw S e hs hl h2⟩
  | _, _, _, .flst hs, hl, v, r => by
    obtain ⟨a, vs, rfl, h1, h2, h3⟩ := RW.lst_.mp r
    exact RW.lst_.mpr ⟨a, vs, rfl, (e.fz a h1).1, h2, FrzL.rw S e hs hl h3⟩
theorem FrzL.rw {F G : Addr → Prop} {H : Hp} {M : Mh} (S : Sim T F H M) (e : Ext F H G H) : ∀ {ws us : List W} {l : List Addr}, FrzL M ws us l → (∀ b ∈ l, G b) → ∀ {vs}, RWs T F H ws vs → RWs T G H us vs
  | _, _, _, .keep, _, vs, r => r.ext e
  | _, _, _, .nil, _, vs, r => by rw [RWs.nil_.mp r]; exact .nil
  | _, _, _, .cons h hs, hl, vs, r => by
    obtain ⟨v, vs, rfl, r1, r2⟩ := RWs.cons_.mp r
    exact .cons (Frz.rw S e h (fun b hb => hl b (List.mem_append_left _ hb)) r1) (FrzL.rw S e hs (fun b hb => hl b (List.mem_append_right _ hb)) r2)
end
theorem Sim.freezes {F : Addr → Prop} {H : Hp} {M : Mh} (S : Sim T F H M) {l : List Addr} (h : ∀ b ∈ l, ∃ o, M b = some o ∧ notLk o = true) : Ext F H (fun b => F b ∨ b ∈ l) H ∧ Sim T (fun b => F b ∨ b ∈ l) H (mdelL M l) := by
  have e : Ext F H (fun b => F b ∨ b ∈ l) H := ⟨fun b f => ⟨.inl f, rfl⟩, fun _ _ q => q, fun _ _ _ q => q⟩
  refine ⟨e, ⟨fun b o q => ?_, fun b f => ?_, S.tk⟩⟩
  · unfold mdelL at q
    by_cases hb : b ∈ l
    · rw [if_pos hb] at q; cases q
    · rw [if_neg hb] at q
      obtain ⟨nf, ho, q1, q2⟩ := S.ob b o q
      exact ⟨fun z => z.elim nf hb, ho, q1, q2.ext e⟩
  · rcases f with f | f
    · exact S.fz b f
    · obtain ⟨u, hu, hn⟩ := h b f
      obtain ⟨_, ho, q1, q2⟩ := S.ob b u hu
      refine ⟨ho, q1, ?_⟩
      cases u with
      | lst ws => obtain ⟨vs, rfl, _⟩ := q2; trivial
      | dk ws => obtain ⟨vs, rfl, _⟩ := q2; trivial
      | dt ws => obtain ⟨vs, rfl, _⟩ := q2; trivial
      | lk ws => cases hn
      | lkt ws => cases hn
      | ins c fs => obtain ⟨dx, vs, rfl, _⟩ := q2; trivial
def dfzW (w : W) (M : Mh) (Q : QW) : Prop := ∃ w' l, Frz M w w' l ∧ Q w' (mdelL M l)
def dDfz (τ : DE) : DE := fun σ M Q Ex => τ σ M (fun w M1 => dfzW w M1 Q) Ex
theorem ce_dfz {τ : DE} {σ : L2.St} {H : Hp} {Q : VK} (q : cE T E (dDfz τ) σ H Q) : cE T E τ σ H Q := by
  obtain ⟨F, σw, M, Qw, Ew, rs, S, t, kq, kx⟩ := q
  refine ⟨F, σw, M, _, Ew, rs, S, t, fun w M1 v H1 F1 e1 r1 S1 ⟨w', l, f, q⟩ => ?_, kx⟩
  obtain ⟨e2, S2⟩ := S1.freezes f.was
  exact kq _ _ _ _ _ (e1.trans e2) (f.rw S1 e2 (fun b hb => .inr hb) r1) S2 q
theorem ae_dfz {e : Expr} {τ : DE} (h : PE X e (cE T E τ)) : PE X e (cE T E (dDfz τ)) := PE.imp h fun _ _ _ q => ce_dfz q
def Sub (M' M : Mh) : Prop := ∀ a o, M' a = some o → M a = some o
theorem Sub.refl {M : Mh} : Sub M M := fun _ _ h => h
theorem Sub.trans {M M' M'' : Mh} (h : Sub M M') (h' : Sub M' M'') : Sub M M'' := fun a o q => h' a o (h a o q)
def fgQ (Q : QW) : QW := fun w M => ∃ M', Sub M' M ∧ Q w M'
def fgX (Q : QX) : QX := fun x M => ∃ M', Sub M' M ∧ Q x M'
theorem fgQ.of {Q : QW} {w : W} {M : Mh} (q : Q w M) : fgQ Q w M := ⟨M, .refl, q⟩
theorem fgX.of {Q : QX} {w : Xn} {M : Mh} (q : Q w M) : fgX Q w M := ⟨M, .refl, q⟩
def lkOf : MO → Option MO
  | .dk kvs => some (.lk kvs)
  | .dt kvs => some (.lkt kvs)
  | _ => none
def dLock (τ : DE) : DE := fun σ M Q Ex => ∃ a u u', M a = some u ∧ lkOf u = some u' ∧ τ σ (mup M a u') (fun w M' => M' a = some u' ∧ Q w (mup M' a u)) Ex
def dLockS (τ : DS) : DS := fun D σ M => ∃ a u u', M a = some u ∧ lkOf u = some u' ∧ τ ⟨fun σ' M' => M' a = some u' ∧ D.nx σ' (mup M' a u), fun w M' => M' a = some u' ∧ D.rt w (mup M' a u), fun σ' M' => M' a = some u' ∧ D.bk σ' (mup M' a u), fun σ' M' => M' a = some u' ∧ D.ct σ' (mup M' a u), D.ex⟩ σ (mup M a u')
def tLockX (t : TE) : TE := fun σ H Q => ∃ d u, H d = some u ∧ Mut (some u) ∧ ∀ od, t σ (upd H d (.frz od u)) fun v H' => ∃ od' u', H' d = some (.frz od' u') ∧ Q v (upd H' d u')
theorem pe_lockX {e : Expr} {t : TE} (h : PE X e t) : PE X e (tLockX t) := by
  refine ⟨fun pins s σ H Q I hw => ?_⟩
  obtain ⟨d, u, hd, mu, hw⟩ := hw
  obtain ⟨od, I1⟩ := I.lock hd mu
  refine thn (h.run pins s σ _ _ I1 (hw od)) fun v s1 ⟨x, H1, I2, r, od', u', e2, q⟩ => ?_
  exact ⟨x, _, I2.unlock e2 (I.nofrz hd mu), r, q⟩
def tLockXS (t : TS) : TS := fun D σ H => ∃ d u, H d = some u ∧ Mut (some u) ∧ ∀ od, t ⟨fun σ' H' => ∃ od' u', H' d = some (.frz od' u') ∧ D.nx σ' (upd H' d u'), fun v H' => ∃ od' u', H' d = some (.frz od' u') ∧ D.rt v (upd H' d u'), fun σ' H' => ∃ od' u', H' d = some (.frz od' u') ∧ D.bk σ' (upd H' d u'), fun σ' H' => ∃ od' u', H' d = some (.frz od' u') ∧ D.ct σ' (upd H' d u')⟩ σ (upd H d (.frz od u))
theorem ps_lockX {st : Stmt} {t : TS} (h : PS X st t) : PS X st (tLockXS t) := by
  refine ⟨fun pins s σ H D I hw => ?_⟩
  obtain ⟨d, u, hd, mu, hw⟩ := hw
  obtain ⟨od, I1⟩ := I.lock hd mu
  refine thn (h.run pins s σ _ _ I1 (hw od)) fun f s1 q => ?_
  cases f with
  | next => obtain ⟨σ', H', I2, od', u', e, q⟩ := q; exact ⟨σ', _, I2.unlock e (I.nofrz hd mu), q⟩
  | brk => obtain ⟨σ', H', I2, od', u', e, q⟩ := q; exact ⟨σ', _, I2.unlock e (I.nofrz hd mu), q⟩
  | cont => obtain ⟨σ', H', I2, od', u', e, q⟩ := q; exact ⟨σ', _, I2.unlock e (I.nofrz hd mu), q⟩
  | ret v => obtain ⟨x, σ', H', I2, r, od', u', e, q⟩ := q; exact ⟨x, σ', _, I2.unlock e (I.nofrz hd mu), r, q⟩
section
variable {F : Addr → Prop} {H : Hp} {M : Mh}
theorem Sim.lock (S : Sim T F H M) {a : Addr} {u u' : MO} (h : M a = some u) (hu : lkOf u = some u') : ∃ v, H a = some v ∧ Mut (some v) ∧ ∀ od, Ext F H F (upd H a (.frz od v)) ∧ Sim T F (upd H a (.frz od v)) (mup M a u') := by
  obtain ⟨_, ho, q1, q2⟩ := S.ob a u h
  cases u with
  | dk kvs =>
    cases hu
    obtain ⟨us, rfl, r⟩ := q2
    exact ⟨_, q1, trivial, fun od => S.put h ⟨od, us, rfl, r⟩⟩
  | dt kvs =>
    cases hu
    obtain ⟨us, rfl, r⟩ := q2
    exact ⟨_, q1, trivial, fun od => S.put h ⟨od, us, rfl, r⟩⟩
  | _ => cases hu
theorem Sim.unlock (S : Sim T F H M) {a : Addr} {u u' : MO} (h : M a = some u') (hu : lkOf u = some u') : ∃ od v, H a = some (.frz od v) ∧ Ext0 F H F (upd H a v) ∧ Sim T F (upd H a v) (mup M a u) := by
  obtain ⟨_, ho, q1, q2⟩ := S.ob a u' h
  cases u with
  | dk kvs =>
    cases hu
    obtain ⟨od, us, rfl, r⟩ := q2
    exact ⟨od, _, q1, S.put0 h ⟨us, rfl, r⟩⟩
  | dt kvs =>
    cases hu
    obtain ⟨od, us, rfl, r⟩ := q2
    exact ⟨od, _, q1, S.put0 h ⟨us, rfl, r⟩⟩
  | _ => cases hu
theorem Sim.locked (S : Sim T F H M) {a : Addr} {u u' : MO} {v v' : HO} {od : Obj} {F' : Addr → Prop} {H' : Hp} (h : M a = some u) (hu : lkOf u = some u') (hv : H a = some v) (e2 : Ext F (upd H a (.frz od v)) F' H') : Ext F H F' (upd H' a v') := by
  obtain ⟨nf, ho, q1, q2⟩ := S.ob a u h
  rw [hv] at q1
  cases q1
  have ne : ∀ {b : Addr} {x : HO}, H b = some x → x ≠ v → b ≠ a := fun {b x} q d z => by subst z; rw [hv] at q; exact d (Option.some.inj q).symm
  have nt : ∀ xs, HO.tup xs ≠ v := fun xs z => by
    subst z
    cases u with
    | dk kvs => obtain ⟨us, q, _⟩ := q2; cases q
    | dt kvs => obtain ⟨us, q, _⟩ := q2; cases q
    | _ => cases hu
  have nr : ∀ x y, HO.frz x y ≠ v := fun x y z => by
    subst z
    cases u with
    | dk kvs => obtain ⟨us, q, _⟩ := q2; cases q
    | dt kvs => obtain ⟨us, q, _⟩ := q2; cases q
    | _ => cases hu
  refine ⟨fun b fb => ?_, fun b xs q => ?_, fun b x y q => ?_⟩
  · have hb : b ≠ a := fun z => nf (z ▸ fb)
    refine ⟨(e2.fz b fb).1, ?_⟩
    rw [upd_ne hb, (e2.fz b fb).2, upd_ne hb]
  · have hb := ne q (nt xs)
    rw [upd_ne hb]
    exact e2.tp b xs (by rw [upd_ne hb]; exact q)
  · have hb := ne q (nr x y)
    rw [upd_ne hb]
    exact e2.fr b x y (by rw [upd_ne hb]; exact q)
end
theorem RS.ext0 {F F' : Addr → Prop} {H H' : Hp} {σw : Sw} {σ : L2.St} (e : Ext0 F H F' H') (r : RS T F H σw σ) : RS T F' H' σw σ := ⟨r.len, fun i w h => by
  obtain ⟨v, a, b⟩ := r.at_ i w h
  exact ⟨v, a, b.ext0 e⟩⟩
theorem ae_lock {e : Expr} {τ : DE} (h : PE X e (cE T E τ)) : PE X e (cE T E (dLock τ)) := PE.imp (pe_lockX h) fun σ H Q q => by
  obtain ⟨F, σw, M, Qw, Ew, rs, S, ⟨a, u, u', h1, h2, t⟩, kq, kx⟩ := q
  obtain ⟨v, hv, mu, hl⟩ := S.lock h1 h2
  refine ⟨a, v, hv, mu, fun od => ?_⟩
  obtain ⟨e1, S1⟩ := hl od
  refine ⟨F, σw, _, _, Ew, rs.ext e1, S1, t, fun w M' x H' F' e2 r2 S2 ⟨h3, q⟩ => ?_, kx.ext e1⟩
  obtain ⟨od', v', h4, e3, S3⟩ := S2.unlock h3 h2
  exact ⟨od', v', h4, kq _ _ _ _ _ (S.locked h1 h2 hv e2) (r2.ext0 e3) S3 q⟩
theorem as_lock {s : Stmt} {τ : DS} (h : PS X s (cS T E τ)) : PS X s (cS T E (dLockS τ)) := PS.imp (ps_lockX h) fun D σ H q => by
  obtain ⟨F, σw, M, Dv, rs, hl, S, ⟨a, u, u', h1, h2, t⟩, k1, k2, k3, k4, kx⟩ := q
  obtain ⟨v, hv, mu, hlk⟩ := S.lock h1 h2
  refine ⟨a, v, hv, mu, fun od => ?_⟩
  obtain ⟨e1, S1⟩ := hlk od
  have key : ∀ {F' : Addr → Prop} {H' : Hp} {M' : Mh}, Ext F (upd H a (.frz od v)) F' H' → Sim T F' H' M' → M' a = some u' → ∃ od' v', H' a = some (.frz od' v') ∧ Ext F H F' (upd H' a v') ∧ Ext0 F' H' F' (upd H' a v') ∧ Sim T F' (upd H' a v') (mup M' a u) := fun {F' H' M'} e2 S2 h3 => by
    obtain ⟨od', v', h4, e3, S3⟩ := S2.unlock h3 h2
    exact ⟨od', v', h4, S.locked h1 h2 hv e2, e3, S3⟩
  refine ⟨F, σw, _, _, rs.ext e1, hl, S1, t, fun σ' M' s' H' F' e2 r2 l2 S2 ⟨h3, q⟩ => ?_, fun w M' x H' F' e2 r2 S2 ⟨h3, q⟩ => ?_, fun σ' M' s' H' F' e2 r2 l2 S2 ⟨h3, q⟩ => ?_, fun σ' M' s' H' F' e2 r2 l2 S2 ⟨h3, q⟩ => ?_, kx.ext e1⟩
  · obtain ⟨od', v', h4, e4, e3, S3⟩ := key e2 S2 h3
    exact ⟨od', v', h4, k1 _ _ _ _ _ e4 (r2.ext0 e3) l2 S3 q⟩
  · obtain ⟨od', v', h4, e4, e3, S3⟩ := key e2 S2 h3
    exact ⟨od', v', h4, k2 _ _ _ _ _ e4 (r2.ext0 e3) S3 q⟩
  · obtain ⟨od', v', h4, e4, e3, S3⟩ := key e2 S2 h3
    exact ⟨od', v', h4, k3 _ _ _ _ _ e4 (r2.ext0 e3) l2 S3 q⟩
  · obtain ⟨od', v', h4, e4, e3, S3⟩ := key e2 S2 h3
    exact ⟨od', v', h4, k4 _ _ _ _ _ e4 (r2.ext0 e3) l2 S3 q⟩
def keysOf_ : MO → Option (List W)
  | .lk kvs => some (kvs.map fun p => keyW p.1)
  | .lkt kvs => some (kvs.map fun p => .tup (p.1.map keyW))
  | _ => none
def iKeysD (τ : DE) : DI := fun σ M K Ex => τ σ M (fun x M1 => ∃ a u ks, x = .ref a ∧ M1 a = some u ∧ keysOf_ u = some ks ∧ K ks (fun M => M a = some u) M1) Ex
theorem RK.at' {κ : Type} {F : Addr → Prop} {H : Hp} : ∀ {fs : List (κ × W)} {us : List (κ × V)} {i : Nat} {k : κ} {w : W}, RK T F H fs us → fs[i]? = some (k, w) → ∃ v, us[i]? = some (k, v)
  | [], _, _, _, _, _, h => by simp at h
  | (n, w) :: fs, _, 0, _, _, r, h => by
    obtain ⟨v, r, rfl, _, _⟩ := r
    cases h
    exact ⟨v, rfl⟩
  | (n, w) :: fs, _, i + 1, _, _, r, h => by
    obtain ⟨v, r, rfl, _, h2⟩ := r
    exact RK.at' (i := i) h2 (by simpa using h)
theorem key_rws {F : Addr → Prop} {H : Hp} : ∀ ks : List Key, RWs T F H (ks.map keyW) (ks.map kV)
  | [] => .nil
  | k :: ks => .cons (RW.key.mpr rfl) (key_rws ks)
theorem ai_keys {tg e : Expr} {τ : DE} (he : PE X e (cE T E τ)) : PI X tg e (cI T E (iKeysD τ)) := PI.imp (pi_keys he) fun σ H R q => by
  obtain ⟨F, σw, M, Rw, Ew, rs, S, t, kq, kx⟩ := q
  refine ⟨F, σw, M, _, Ew, rs, S, t, fun x M1 v H1 F1 e1 r1 S1 ⟨a, u, ks, ex, h1, h2, q⟩ => ?_, kx⟩
  subst ex
  obtain ⟨_, ho, q1, q2⟩ := S1.ob a u h1
  cases u with
  | lk kvs =>
    cases h2
    obtain ⟨od, us, rfl, r⟩ := q2
    have hl := RK.len r
    refine ⟨a, od, RW.ref_.mp r1, .inl ⟨us, q1, kq _ _ _ _ _ _ e1 S1 h1 ⟨fun F2 H2 M2 i e2 S2 _ hi => ⟨e2.fr _ _ _ q1, ?_⟩, fun F2 H2 M2 i e2 S2 _ hi => ⟨e2.fr _ _ _ q1, ?_⟩, fun F2 H2 M2 i w y H' e2 S2 _ hw hy => ?_⟩ q⟩⟩
    · rw [List.length_map] at hi; omega
    · rw [List.length_map] at hi; omega
    · obtain ⟨rfl, k, v', hv, rfl⟩ := hy
      rw [List.getElem?_map] at hw
      cases hk : kvs[i]? with
      | none => rw [hk] at hw; cases hw
      | some p =>
        rw [hk] at hw; cases hw
        obtain ⟨n, z⟩ := p
        obtain ⟨v2, h3⟩ := RK.at' r hk
        rw [hv] at h3
        cases h3
        exact ⟨F2, .refl, S2, RW.key.mpr rfl⟩
  | lkt kvs =>
    cases h2
    obtain ⟨od, us, rfl, r⟩ := q2
    have hl := RK.len r
    refine ⟨a, od, RW.ref_.mp r1, .inr ⟨us, q1, kq _ _ _ _ _ _ e1 S1 h1 ⟨fun F2 H2 M2 i e2 S2 _ hi => ⟨e2.fr _ _ _ q1, ?_⟩, fun F2 H2 M2 i e2 S2 _ hi => ⟨e2.fr _ _ _ q1, ?_⟩, fun F2 H2 M2 i w y H' e2 S2 _ hw hy => ?_⟩ q⟩⟩
    · rw [List.length_map] at hi; omega
    · rw [List.length_map] at hi; omega
    · obtain ⟨rfl, k, v', b, hv, rfl, hb⟩ := hy
      rw [List.getElem?_map] at hw
      cases hk : kvs[i]? with
      | none => rw [hk] at hw; cases hw
      | some p =>
        rw [hk] at hw; cases hw
        obtain ⟨n, z⟩ := p
        obtain ⟨v2, h3⟩ := RK.at' r hk
        rw [hv] at h3
        cases h3
        exact ⟨F2, .refl, S2, RW.tup_.mpr ⟨b, _, rfl, .of hb, key_rws _⟩⟩
  | _ => cases h2
end WL
namespace WL
open PySem PySem.Spec PyProof.Rows L2
variable {T : Tb} {X : Cx} {E : XK}
def pCC (f g : Str) : Expr → Option (List Str × List Expr)
  | .Call (.Name x _) [.Call (.Name y _) l [] _] [] _ => if x = f ∧ y = g then some ([f, g], l) else none
  | _ => none
theorem pCC_of {f g : Str} {e : Expr} {fr : List Str} {l : List Expr} (h : pCC f g e = some (fr, l)) : fr = [f, g] ∧ ∃ p p2 q q2, e = .Call (.Name f p) [.Call (.Name g p2) l [] q2] [] q := by
  unfold pCC at h
  split at h
  · split at h
    · rename_i hc
      obtain ⟨rfl, rfl⟩ := hc
      cases h
      exact ⟨rfl, _, _, _, _, rfl⟩
    · cases h
  · cases h
def p1 (o : Option (List Str × List Expr)) : Option (List Str × Expr) := match o with
  | some (fr, [a]) => some (fr, a)
  | _ => none
theorem p1_of {o : Option (List Str × List Expr)} {fr : List Str} {a : Expr} (h : p1 o = some (fr, a)) : o = some (fr, [a]) := by
  unfold p1 at h
  split at h
  · cases h; rfl
  · cases h
def p2 (o : Option (List Str × List Expr)) : Option (List Str × Expr × Expr) := match o with
  | some (fr, [a, b]) => some (fr, a, b)
  | _ => none
theorem p2_of {o : Option (List Str × List Expr)} {fr : List Str} {a b : Expr} (h : p2 o = some (fr, a, b)) : o = some (fr, [a, b]) := by
  unfold p2 at h
  split at h
  · cases h; rfl
  · cases h
def rgIn (a b : Int) : Prop := -(2 ^ 62) ≤ a ∧ a < 2 ^ 62 ∧ -(2 ^ 62) ≤ b ∧ b < 2 ^ 62 ∧ (b - a).toNat ≤ 2 ^ 24
def trgW : W → Mh → QW → Prop
  | .int j, M, Q => rgIn 0 j ∧ Q (.tup (rangeL 0 j)) M
  | _, _, _ => False
def trg2W : W → W → Mh → QW → Prop
  | .int i, .int j, M, Q => rgIn i j ∧ Q (.tup (rangeL i j)) M
  | _, _, _, _ => False
def lrg2W (own : Bool) : W → W → Mh → QW → Prop
  | .int i, .int j, M, Q => rgIn i j ∧ newL own (rangeL i j) M Q
  | _, _, _, _ => False
inductive Op1 where
  | trg
  deriving DecidableEq
inductive Op2 where
  | trg2 | lrg2
  deriving DecidableEq
def Op1.pat : Op1 → Expr → Option (List Str × Expr)
  | .trg, e => p1 (pCC "tuple" "range" e)
def Op2.pat : Op2 → Expr → Option (List Str × Expr × Expr)
  | .trg2, e => p2 (pCC "tuple" "range" e)
  | .lrg2, e => p2 (pCC "list" "range" e)
def Op1.w (own : Bool) : Op1 → W → Mh → QW → Prop
  | .trg => trgW
def Op2.w (own : Bool) : Op2 → W → W → Mh → QW → Prop
  | .trg2 => trg2W
  | .lrg2 => lrg2W own
structure OpCx (T : Tb) (X : Cx) : Prop where
  K : X.K = T.K
  calm : X.calm = true
  un : X.A.units + 65 < cLine
theorem ce_1 {own : Bool} {p : W → Mh → QW → Prop} {τ : DE} {r : V → Hp → VK → Prop} (k : ∀ F H M x v Qw Q, Sim T F H M → RW T F H x v → p x M Qw → KQ T F H Qw Q → r v H Q) {σ : L2.St} {H : Hp} {Q : VK} (q : cE T E (d1 p τ) σ H Q) :
    cE T E τ σ H fun v H1 => r v H1 Q := by
  obtain ⟨F, σw, M, Qw, Ew, rs, S, t, kq, kx⟩ := q
  exact ⟨F, σw, M, _, Ew, rs, S, t, fun x M1 v H1 F1 e1 r1 S1 q => k _ _ _ _ _ _ _ S1 r1 q (KQ.of kq e1), kx⟩
theorem ce_2 {p : W → W → Mh → QW → Prop} {τ τ' : DE} {r : V → V → Hp → VK → Prop} (k : ∀ F H M x y v u Qw Q, Sim T F H M → RW T F H x v → RW T F H y u → p x y M Qw → KQ T F H Qw Q → r v u H Q) {σ : L2.St} {H : Hp} {Q : VK} (q : cE T E (d2 p τ τ') σ H Q) :
    cE T E τ σ H fun v H1 => cE T E τ' σ H1 fun u H2 => r v u H2 Q := by
  obtain ⟨F, σw, M, Qw, Ew, rs, S, t, kq, kx⟩ := q
  refine ⟨F, σw, M, _, Ew, rs, S, t, fun x M1 v H1 F1 e1 r1 S1 q => ?_, kx⟩
  exact ⟨F1, σw, M1, _, Ew, rs.ext e1, S1, q, fun y M2 u H2 F2 e2 r2 S2 q => k _ _ _ _ _ _ _ _ _ S2 (r1.ext e2) r2 q (KQ.of kq (e1.trans e2)), kx.ext e1⟩
theorem KQ.newTup {F : Addr → Prop} {H : Hp} {M : Mh} {Qw : QW} {Q : VK} {ws : List W} {vs : List V} (k : KQ T F H Qw Q) (S : Sim T F H M) (r : RWs T F H ws vs) (q : Qw (.tup ws) M) {p : Addr} (hp : H p = none) : Q (.ref p) (upd H p (.tup vs)) := by
  obtain ⟨e, S'⟩ := S.newT (vs := vs) hp
  exact k _ _ _ _ _ e (RW.tup_.mpr ⟨p, vs, rfl, .of upd_same, r.ext e⟩) S' q
theorem op1_ok (o : Op1) {own : Bool} {e a : Expr} {fr : List Str} {τ : DE} (c : OpCx T X) (h : o.pat e = some (fr, a)) (hf : ∀ x ∈ fr, Gl X x ∧ X.mg x = none) (ha : PE X a (cE T E τ)) (hs : noStar a = true) : PE X e (cE T E (d1 (o.w own) τ)) := by
  cases o with
  | trg =>
    obtain ⟨rfl, p, p2, q, q2, rfl⟩ := pCC_of (p1_of h)
    refine PE.imp (pe_tupRg c.calm (hf _ (by simp)).1 (hf _ (by simp)).2 (prg_1 (hf _ (by simp)).1 (hf _ (by simp)).2 ha (star_cons hs)) (star_cons rfl)) fun σ H Q q => ?_
    refine ce_1 (own := own) (r := fun v H1 Q => ∃ n, v = .int n ∧ RgOk 0 n ∧ ∀ q, H1 q = none → Q (.ref q) (upd H1 q (.tup (rgV 0 n)))) (fun F H M x v Qw Q S rx p k => ?_) q
    cases x with
    | int j => exact ⟨j, RW.int_.mp rx, p.1, fun q hq => k.newTup S rws_rg p.2 hq⟩
    | _ => exact p.elim
theorem op2_ok (o : Op2) {own : Bool} {e a b : Expr} {fr : List Str} {τ τ' : DE} (c : OpCx T X) (h : o.pat e = some (fr, a, b)) (hf : ∀ x ∈ fr, Gl X x ∧ X.mg x = none) (ha : PE X a (cE T E τ)) (hb : PE X b (cE T E τ')) (hs : noStar a = true) (hs' : noStar b = true) :
    PE X e (cE T E (d2 (o.w own) τ τ')) := by
  cases o with
  | trg2 =>
    obtain ⟨rfl, p, p2, q, q2, rfl⟩ := pCC_of (p2_of h)
    refine PE.imp (pe_tupRg c.calm (hf _ (by simp)).1 (hf _ (by simp)).2 (prg_2 (hf _ (by simp)).1 (hf _ (by simp)).2 ha hb (star_cons hs) (star_cons hs') (star_any (by simp [hs']))) (star_cons rfl)) fun σ H Q q => ?_
    refine ce_2 (r := fun v u H1 Q => ∃ i j, v = .int i ∧ u = .int j ∧ RgOk i j ∧ ∀ q, H1 q = none → Q (.ref q) (upd H1 q (.tup (rgV i j)))) (fun F H M x y v u Qw Q S rx ry p k => ?_) q
    cases x with
    | int i => cases y with
      | int j => exact ⟨i, j, RW.int_.mp rx, RW.int_.mp ry, p.1, fun q hq => k.newTup S rws_rg p.2 hq⟩
      | _ => exact p.elim
    | _ => exact p.elim
  | lrg2 =>
    obtain ⟨rfl, p, p2, q, q2, rfl⟩ := pCC_of (p2_of h)
    refine PE.imp (pe_listRg c.calm (hf _ (by simp)).1 (hf _ (by simp)).2 (prg_2 (hf _ (by simp)).1 (hf _ (by simp)).2 ha hb (star_cons hs) (star_cons hs') (star_any (by simp [hs']))) (star_cons rfl)) fun σ H Q q => ?_
    refine ce_2 (r := fun v u H1 Q => ∃ i j, v = .int i ∧ u = .int j ∧ RgOk i j ∧ ∀ q, H1 q = none → Q (.ref q) (upd H1 q (.lst (rgV i j)))) (fun F H M x y v u Qw Q S rx ry p k => ?_) q
    cases x with
    | int i => cases y with
      | int j => exact ⟨i, j, RW.int_.mp rx, RW.int_.mp ry, p.1, fun q hq => k.newL S rws_rg p.2 q hq⟩
      | _ => exact p.elim
    | _ => exact p.elim
end WL
namespace WL
open PySem PySem.Spec PyProof.Rows L2
variable {T : Tb} {X : Cx} {E : XK}
structure Tb.Same (T T' : Tb) : Prop where
  K : T'.K = T.K
  cls : T'.cls = T.cls
  tabs : T'.tabs = T.tabs
  xcl : T'.xcl = T.xcl
section
variable {T' : Tb} {F : Addr → Prop} {H : Hp}
theorem Tb.Same.symm (t : T.Same T') : T'.Same T := ⟨t.K.symm, t.cls.symm, t.tabs.symm, t.xcl.symm⟩
theorem ScrAt.tb (t : T.Same T') {a : Addr} {vs : List V} (h : ScrAt T F H a vs) : ScrAt T' F H a vs := by
  unfold ScrAt at h ⊢
  rw [t.K]
  exact h
mutual
theorem RW.tb (t : T.Same T') : ∀ {w : W} {v : V}, RW T F H w v → RW T' F H w v
  | .non, _, h => by simpa only [RW] using h
  | .bl _, _, h => by simpa only [RW] using h
  | .int _, _, h => by simpa only [RW] using h
  | .str _, _, h => by simpa only [RW] using h
  | .ref _, _, h => by simpa only [RW] using h
  | .tup ws, _, h => by
    obtain ⟨a, vs, rfl, h1, h2⟩ := RW.tup_.mp h
    exact RW.tup_.mpr ⟨a, vs, rfl, by rw [t.K]; exact h1, RWs.tb t h2⟩
  | .lst ws, _, h => by
    obtain ⟨a, vs, rfl, h1, h2, h3⟩ := RW.lst_.mp h
    exact RW.lst_.mpr ⟨a, vs, rfl, h1, h2, RWs.tb t h3⟩
  | .scr ws, _, h => by
    obtain ⟨a, vs, rfl, h1, h2⟩ := RW.scr_.mp h
    exact RW.scr_.mpr ⟨a, vs, rfl, h1.tb t, RWs.tb t h2⟩
  | .dk ks ws, _, h => by
    obtain ⟨a, kvs, rfl, h1, h2, h3, h4⟩ := RW.dk_.mp h
    exact RW.dk_.mpr ⟨a, kvs, rfl, h1, h2, h3, RWs.tb t h4⟩
  | .dt ks ws, _, h => by
    obtain ⟨a, kvs, rfl, h1, h2, h3, h4⟩ := RW.dt_.mp h
    exact RW.dt_.mpr ⟨a, kvs, rfl, h1, h2, h3, RWs.tb t h4⟩
  | .obj c ns ws, _, h => by
    obtain ⟨a, dx, fs, rfl, h1, h2, h3, h4⟩ := RW.obj_.mp h
    exact RW.obj_.mpr ⟨a, dx, fs, rfl, h1, by rw [t.cls]; exact h2, h3, RWs.tb t h4⟩
theorem RWs.tb (t : T.Same T') : ∀ {ws : List W} {vs : List V}, RWs T F H ws vs → RWs T' F H ws vs
  | [], _, h => RWs.nil_.mpr (RWs.nil_.mp h)
  | w :: ws, _, h => by
    obtain ⟨v, r, rfl, h1, h2⟩ := RWs.cons_.mp h
    exact .cons (RW.tb t h1) (RWs.tb t h2)
end
theorem RF.tb (t : T.Same T') : ∀ {fs : List (Str × W)} {us : List (Str × V)}, RF T F H fs us → RF T' F H fs us
  | [], _, h => h
  | (n, w) :: fs, _, h => by
    obtain ⟨v, r, rfl, h1, h2⟩ := h
    exact ⟨v, r, rfl, h1.tb t, RF.tb t h2⟩
theorem RK.tb {κ : Type} (t : T.Same T') : ∀ {fs : List (κ × W)} {us : List (κ × V)}, RK T F H fs us → RK T' F H fs us
  | [], _, h => h
  | (n, w) :: fs, _, h => by
    obtain ⟨v, r, rfl, h1, h2⟩ := h
    exact ⟨v, r, rfl, h1.tb t, RK.tb t h2⟩
theorem RO.tb (t : T.Same T') : ∀ {o : MO} {u : HO}, RO T F H o u → RO T' F H o u
  | .lst ws, _, ⟨vs, r, h⟩ => ⟨vs, r, h.tb t⟩
  | .dk ws, _, ⟨vs, r, h⟩ => ⟨vs, r, RK.tb t h⟩
  | .dt ws, _, ⟨vs, r, h⟩ => ⟨vs, r, RK.tb t h⟩
  | .lk ws, _, ⟨od, vs, r, h⟩ => ⟨od, vs, r, RK.tb t h⟩
  | .lkt ws, _, ⟨od, vs, r, h⟩ => ⟨od, vs, r, RK.tb t h⟩
  | .ins c fs, _, ⟨dx, vs, r, h⟩ => ⟨dx, vs, by rw [t.cls]; exact r, RF.tb t h⟩
theorem Sim.tb (t : T.Same T') {M : Mh} (S : Sim T F H M) (hx : ∀ d us, T'.xd = some (d, us) → H d = some (.xd us)) : Sim T' F H M :=
  ⟨fun a o q => by
    obtain ⟨f, ho, q1, q2⟩ := S.ob a o q
    exact ⟨f, ho, q1, q2.tb t⟩, S.fz, ⟨by rw [t.tabs]; exact S.tk.tb, hx⟩⟩
theorem RS.tb (t : T.Same T') {σw : Sw} {σ : L2.St} (r : RS T F H σw σ) : RS T' F H σw σ := ⟨r.len, fun i w h => by
  obtain ⟨v, a, b⟩ := r.at_ i w h
  exact ⟨v, a, b.tb t⟩⟩
end
structure XrF (T : Tb) (X : Cx) (c : Nat) : Prop where
  ex : PySem.W.excIn X.K (T.xcl c) He.veBase "ValueError.__new__" = true
  kp : PySem.W.keepIn X.K (.ref (T.xcl c)) = true
  ra : PySem.W.subIn X.K (.ref (T.xcl c)) (.type "BaseException") = some true
  ty : PySem.W.typeIn X.K (.ref (T.xcl c)) = some (.type "type")
abbrev outE (E : XK) : WX := fun cls d _ H => E cls d H
def dRaise (c : Nat) : DS := fun D _ M => D.ex ⟨c, []⟩ M
theorem as_raise {c : Nat} {x m : Str} {j : Nat} {p p2 pos pos' : Pos} (hc : X.calm = true) (tk : Takes X (outE E)) (h : XrF T X c) (hm : X.mg x = some (.ref (T.xcl c))) (hg : Gl X x) (hn : okName x = true) :
    PS X (.Raise (some (.Call (.Name x p) [.Constant (.str m) j p2] [] pos)) none pos') (cS T E (dRaise c)) :=
  PS.imp (L2.ps_raise hc tk (pmk_own PySem.F.excBase_ValueError h.ex hm h.kp (raises_own h.ra h.ty) hg (okName_of hn).1)) fun D σ H q => by
  obtain ⟨F, σw, M, Dv, rs, hl, S, t, _, _, _, _, kx⟩ := q
  exact kx ⟨c, []⟩ M _ none H F .refl ⟨rfl, .inl ⟨rfl, rfl⟩⟩ S t
def FlatFs : List (Str × W) → List (Str × V) → Prop
  | [], us => us = []
  | (n, w) :: fs, us => ∃ v r, us = (n, v) :: r ∧ ((∃ i, w = .int i ∧ v = .int i) ∨ ∃ z, w = .str z ∧ v = .str z) ∧ FlatFs fs r
def flatX : List (Str × W) → Bool
  | [] => true
  | (_, .int _) :: fs => flatX fs
  | (_, .str _) :: fs => flatX fs
  | _ :: _ => false
theorem flatFs_of {F : Addr → Prop} {H : Hp} : ∀ {fs : List (Str × W)} {us : List (Str × V)}, flatX fs = true → RF T F H fs us → FlatFs fs us
  | [], _, _, h => h
  | (n, w) :: fs, _, hf, h => by
    obtain ⟨v, r, rfl, h1, h2⟩ := h
    cases w with
    | int i => exact ⟨v, r, rfl, .inl ⟨i, rfl, RW.int_.mp h1⟩, flatFs_of hf h2⟩
    | str z => exact ⟨v, r, rfl, .inr ⟨z, rfl, RW.str_.mp h1⟩, flatFs_of hf h2⟩
    | _ => cases hf
theorem FlatFs.look {F : Addr → Prop} {H : Hp} {f : Str} {w : W} : ∀ {fs : List (Str × W)} {us : List (Str × V)}, FlatFs fs us → fs.lookup f = some w → ∃ v, us.lookup f = some v ∧ RW T F H w v
  | [], _, _, h => nomatch h
  | (n, y) :: fs, _, hf, h => by
    obtain ⟨v, r, rfl, h1, h2⟩ := hf
    rw [List.lookup_cons] at h ⊢
    split at h
    · rename_i e
      cases h
      rcases h1 with ⟨i, rfl, rfl⟩ | ⟨z, rfl, rfl⟩
      · exact ⟨_, rfl, RW.int_.mpr rfl⟩
      · exact ⟨_, rfl, RW.str_.mpr rfl⟩
    · exact FlatFs.look h2 h
def XdOf (T : Tb) (x : Xn) (d : Option Addr) : Prop := (d = none ∧ x.fs = []) ∨ ∃ dd us, d = some dd ∧ T.xd = some (dd, us) ∧ FlatFs x.fs us
def XnF (T : Tb) (X : Cx) (a : Addr) (x : Xn) : Prop :=
  ∃ (X0 : Cx) (oe : Obj) (pn : List (Addr × Obj)) (d : Option Addr), X = X0.suite a ((a, oe) :: pn) ∧ (∃ vs, oe.data = .fields vs) ∧ Zc (.ref (T.xcl x.cls)) d oe ∧ XdOf T x d
abbrev XkF (T : Tb) (X : Cx) (c : Nat) : Prop := ExcC X.K (T.xcl c)
def rIsX (K : PySem.W.Frag) (D a : Addr) (d : Option Addr) : List V → Hp → VK → Prop := fun xs H Q => ∃ (c : V) (cv : Value) (b : Bool), xs = [.ref a, c] ∧ (∀ u, RelV c u → u = cv) ∧ PySem.W.kitOne K (.ref D) cv = some b ∧
  (d = none ∨ ∃ dd us, d = some dd ∧ H dd = some (.xd us)) ∧ Q (.bl b) H
theorem call_isX {X0 : Cx} {a D : Addr} {oe : Obj} {d : Option Addr} {pn : List (Addr × Obj)} (C : ExcC X0.K D) (hz : Zc (.ref D) d oe) (hf : ∃ vs, oe.data = .fields vs) : CallR (X0.suite a ((a, oe) :: pn)) (.builtin "isinstance") (rIsX X0.K D a d) := by
  intro pins s σ H xs us Q I r h
  obtain ⟨c, cv, b, rfl, hcv, e, hd, q⟩ := h
  match r with
  | .cons rx (.cons rt .nil) =>
    cases rx
    have ec := hcv _ rt
    subst ec
    obtain ⟨hget, _⟩ := I.pin (a, oe) (List.mem_append.mpr (.inl List.mem_cons_self))
    obtain ⟨vs, hv⟩ := hf
    have J : ∃ od, PySem.W.InstAt s.heap a oe D od := by
      rcases hd with rfl | ⟨dd, us, rfl, hx⟩
      · exact ⟨none, hget, hz.1, by unfold PySem.W.notCls; rw [hv] <;> rfl, by rw [hz.2]; trivial⟩
      · have ok : ObjOk X0.prog X0.w H s.heap dd (.xd us) := I.hok dd _ hx
        obtain ⟨mA, hns, _⟩ := ok
        obtain ⟨od, ho, _⟩ := lookIn_ns hns
        exact ⟨some od, hget, hz.1, by unfold PySem.W.notCls; rw [hv] <;> rfl, by rw [hz.2]; exact ho⟩
    obtain ⟨od, J⟩ := J
    have hcl : (PySem.W.clsIn X0.K D).isSome = true := by
      obtain ⟨cd, hc, _⟩ := PySem.W.any_some C.hd
      rw [hc] <;> rfl
    exact PySem.W.kia_one (PySem.W.kitx_exc hcl C.hg C.hk C.hs C.ha C.hn C.ht C.hm) I.kIn J e (fun z => nomatch z) fun tk => ⟨.bl b, H, I.kept (t' := tk) fun _ _ z => z, rfl, q⟩
def dIsx (xn : Option (Addr × Xn)) (r : Nat → Option Bool) (i : Nat) : DE := fun σ M Q _ => ∃ a x b, xn = some (a, x) ∧ σ[i]? = some (some (.ref a)) ∧ r x.cls = some b ∧ Q (.bl b) M
theorem ae_isx {xn : Option (Addr × Xn)} {r : Nat → Option Bool} {i : Nat} {y : Str} {e : Expr} {cv : Value} {v : V} {p q pos : Pos} (hx : ∀ a x, xn = some (a, x) → XnF T X a x)
    (hr : ∀ c b, r c = some b → XkF T X c ∧ PySem.W.kitOne X.K (.ref (T.xcl c)) cv = some b) (h1 : Gl X "isinstance") (h2 : X.mg "isinstance" = none) (hN : X.N[i]? = some y) (hv : Vis X.env.scope y) (hn : okName y = true) (he : PE X e (tC v)) (hcv : ∀ u, RelV v u → u = cv) (hs : noStar e = true) :
    PE X (.Call (.Name "isinstance" p) [.Name y q, e] [] pos) (cE T E (dIsx xn r i)) := by
  cases xn with
  | none => exact ⟨fun _ _ _ _ _ _ h => by
      obtain ⟨_, _, _, _, _, _, _, ⟨_, _, _, z, _⟩, _⟩ := h
      cases z⟩
  | some ax =>
    obtain ⟨a, x⟩ := ax
    obtain ⟨X0, oe, pn, d, rfl, hf, hz, hd⟩ := hx a x rfl
    have hy := okName_of hn
    cases hrc : r x.cls with
    | none => exact ⟨fun _ _ _ _ _ _ h => by
        obtain ⟨_, _, _, _, _, _, _, ⟨_, _, _, z, _, z2, _⟩, _⟩ := h
        cases z
        rw [hrc] at z2
        cases z2⟩
    | some b0 =>
    obtain ⟨hk, hkit⟩ := hr _ _ hrc
    refine PE.imp (pe_callB (call_isX hk hz hf) h1 h2 (by decide +kernel) (pa_cons (pe_var (pos := q) hN hv hy.1 hy.2.1) (pa_cons he pa_nil (star_cons hs)) (star_cons rfl)) (by decide) (by decide) (star_cons rfl) (star_any (by rw [List.all_cons, hs]; rfl))) fun σ H Q h => ?_
    obtain ⟨F, σw, M, Qw, Ew, rs, S, ⟨a', x', b, ea, hi, hb, q⟩, kq, kx⟩ := h
    cases ea
    obtain ⟨v', e1, e2⟩ := rs.at_ i _ hi
    rw [RW.ref_.mp e2] at e1
    rw [hrc] at hb
    cases hb
    refine ⟨_, e1, v, cv, b0, rfl, hcv, hkit, ?_, kq _ _ _ _ _ .refl (RW.bl_.mpr rfl) S q⟩
    rcases hd with ⟨z, _⟩ | ⟨dd, us, z, hxd, _⟩
    · exact .inl z
    · exact .inr ⟨dd, us, z, S.tk.xd dd us hxd⟩
def dXfl (xn : Option (Addr × Xn)) (xf : Nat → Str → Bool) (i : Nat) (f : Str) : DE := fun σ M Q _ => ∃ a x w, xn = some (a, x) ∧ σ[i]? = some (some (.ref a)) ∧ xf x.cls f = true ∧ x.fs.lookup f = some w ∧ Q w M
theorem ae_xfl {xn : Option (Addr × Xn)} {xf : Nat → Str → Bool} {i : Nat} {y f : Str} {q pos : Pos} (hx : ∀ a x, xn = some (a, x) → XnF T X a x) (hno : ∀ c f, xf c f = true → XkF T X c ∧ PySem.W.findIn X.K (.ref (T.xcl c)) f = some none)
    (hN : X.N[i]? = some y) (hv : Vis X.env.scope y) (hn : okName y = true) :
    PE X (.Attribute (.Name y q) f pos) (cE T E (dXfl xn xf i f)) := by
  cases xn with
  | none => exact ⟨fun _ _ _ _ _ _ h => by
      obtain ⟨_, _, _, _, _, _, _, ⟨_, _, _, z, _⟩, _⟩ := h
      cases z⟩
  | some ax =>
    obtain ⟨a, x⟩ := ax
    obtain ⟨X0, oe, pn, d, rfl, hf, hz, hd⟩ := hx a x rfl
    have hy := okName_of hn
    by_cases hs : xf x.cls f = true
    · obtain ⟨hk, hno⟩ := hno _ _ hs
      have hb : plainBase (.Name y q) = true := rfl
      refine PE.imp (pe_xf ⟨hk.hg, hk.hk, hk.hs, hk.hd⟩ hno hz hf (pe_var (pos := q) hN hv hy.1 hy.2.1) (base_of hb)) fun σ H Q h => ?_
      obtain ⟨F, σw, M, Qw, Ew, rs, S, ⟨a', x', w, ea, hi, _, hw, q⟩, kq, kx⟩ := h
      cases ea
      obtain ⟨v', e1, e2⟩ := rs.at_ i _ hi
      rw [RW.ref_.mp e2] at e1
      rcases hd with ⟨_, z⟩ | ⟨dd, us, z, hxd, hfl⟩
      · rw [z] at hw; cases hw
      · obtain ⟨v, h3, h4⟩ := hfl.look (T := T) (F := F) (H := H) hw
        exact ⟨_, e1, rfl, rfl, dd, us, v, z, S.tk.xd dd us hxd, h3, kq _ _ _ _ _ .refl h4 S q⟩
    · exact ⟨fun _ _ _ _ _ _ h => by
        obtain ⟨_, _, _, _, _, _, _, ⟨a', x', w, ea, _, hw, _⟩, _⟩ := h
        cases ea
        exact absurd hw hs⟩
def dCatch (sub : Nat → Option Bool) (τh : Addr → Xn → DS) (i n : Nat) (D : Dw) : QX := fun x M => ∃ b, sub x.cls = some b ∧
  (b = true → flatX x.fs = true ∧ ∀ a, M a = none → τh a x { nx := fun σ M2 => D.nx (σ.set i none) M2, rt := D.rt, bk := fun σ M2 => D.bk (σ.set i none) M2, ct := fun σ M2 => D.ct (σ.set i none) M2, ex := noX } ((List.replicate n none).set i (some (.ref a))) M) ∧
  (b = false → D.ex x M)
def dTry (sub : Nat → Option Bool) (τb : DS) (τh : Addr → Xn → DS) (i : Nat) : DS := fun D σ M => τb { D with ex := dCatch sub τh i σ.length D } σ M
def lenE (W : WX) (n : Nat) : XK := fun cls d H => ∀ σ : L2.St, σ.length = n → W cls d σ H
theorem takes_len {W : WX} (tk : Takes X W) : Takes X (outE (lenE W X.N.length)) := fun u s' ⟨a, B, sI, pins, σ, H, cls, d, e, I, nb, up, sky, na, os, ag, w⟩ =>
  tk u s' ⟨a, B, sI, pins, σ, H, cls, d, e, I, nb, up, sky, na, os, ag, w σ I.len⟩
theorem passes_len {W : WX} (tk : Takes X W) : Passes (L2.CX X.prog X.w) X (lenE W X.N.length) := fun _ σ _ _ e s' I c => tk e s' (XE.of_call I (fun _ _ _ h => h σ I.len) c)
def hSuite (T : Tb) (τh : Addr → Xn → DS) (a : Addr) (cls : Value) (d : Option Addr) : TS := fun D σ H => ∃ (x : Xn) (T' : Tb), T.Same T' ∧ cls = .ref (T'.xcl x.cls) ∧ XdOf T' x d ∧ cS T' E0w (τh a x) D σ H
theorem blank_rs {F : Addr → Prop} {H : Hp} {n i : Nat} {σ : L2.St} {a : Addr} (h : n ≤ σ.length) : RS T F H ((List.replicate n none).set i (some (.ref a))) (σ.set i (some (.ref a))) :=
  RS.set (σw := List.replicate n none) (σ := σ) ⟨by simpa using h, fun j w e => by
    have := List.mem_of_getElem? e
    rw [List.mem_replicate] at this
    cases this.2⟩ (by simpa using h) i (RW.ref_.mpr rfl)
theorem catch_ok {K : PySem.W.Frag} {c : Value} {sub : Nat → Option Bool} {τh : Addr → Xn → DS} {i : Nat} {D : Ends} {Dv : Dw} {F : Addr → Prop} {H : Hp} {n : Nat} {Wout : WX} (hT : T.xd = none)
    (hx : ∀ k b, sub k = some b → PySem.W.exmOne K (.ref (T.xcl k)) c = some b)
    (k1 : ∀ σw' M' σ' H' F', Ext F H F' H' → RS T F' H' σw' σ' → σw'.length ≤ σ'.length → Sim T F' H' M' → Dv.nx σw' M' → D.nx σ' H')
    (k2 : ∀ w M' v H' F', Ext F H F' H' → RW T F' H' w v → Sim T F' H' M' → Dv.rt w M' → D.rt v H')
    (k3 : ∀ σw' M' σ' H' F', Ext F H F' H' → RS T F' H' σw' σ' → σw'.length ≤ σ'.length → Sim T F' H' M' → Dv.bk σw' M' → D.bk σ' H')
    (k4 : ∀ σw' M' σ' H' F', Ext F H F' H' → RS T F' H' σw' σ' → σw'.length ≤ σ'.length → Sim T F' H' M' → Dv.ct σw' M' → D.ct σ' H')
    {x : Xn} {M' : Mh} {cls : Value} {d : Option Addr} {H' : Hp} {F' : Addr → Prop} (e : Ext F H F' H') (rx : RX T F' H' x cls d) (S' : Sim T F' H' M') (hc : dCatch sub τh i n Dv x M')
    (ko : Dv.ex x M' → ∀ σ, Wout cls d σ H') {σr : L2.St} (hl : n ≤ σr.length) : wAs K c i (fun a cls d => hSuite T τh a cls d) Wout D cls d σr H' := by
  obtain ⟨b, hb, hy, hn⟩ := hc
  obtain ⟨rc, rd⟩ := rx
  refine ⟨b, by rw [rc]; exact hx _ _ hb, fun hbt a ha => ?_, fun hbf => ko (hn hbf) σr⟩
  obtain ⟨hf, hy⟩ := hy hbt
  have hM := (S'.fresh ha).1
  have q := hy a hM
  obtain ⟨T', st, hd, hxd⟩ : ∃ T', T.Same T' ∧ XdOf T' x d ∧ ∀ dd us, T'.xd = some (dd, us) → H' dd = some (.xd us) := by
    rcases rd with ⟨rfl, h2⟩ | ⟨dd, us, rfl, h2, h3⟩
    · exact ⟨{ T with xd := none }, ⟨rfl, rfl, rfl, rfl⟩, .inl ⟨rfl, h2⟩, fun _ _ z => nomatch z⟩
    · exact ⟨{ T with xd := some (dd, us) }, ⟨rfl, rfl, rfl, rfl⟩, .inr ⟨dd, us, rfl, rfl, flatFs_of hf h3⟩, fun _ _ z => by cases z; exact h2⟩
  have back : ∀ {H2 : Hp} {F2 : Addr → Prop} {M2 : Mh}, Ext F' H' F2 H2 → Sim T' F2 H2 M2 → Sim T F2 H2 M2 := fun {H2 F2 M2} e2 S2 => S2.tb st.symm fun dd us z => by rw [hT] at z; cases z
  · refine ⟨x, T', st, by rw [rc, st.xcl], hd, F', _, M', _, blank_rs hl, by simpa using hl, S'.tb st hxd, q, fun σw' M2 σ2 H2 F2 e2 r2 l2 S2 q2 => ?_, fun w M2 v H2 F2 e2 r2 S2 q2 => ?_, fun σw' M2 σ2 H2 F2 e2 r2 l2 S2 q2 => ?_, fun σw' M2 σ2 H2 F2 e2 r2 l2 S2 q2 => ?_, noX_k⟩
    · exact k1 _ _ _ _ _ (e.trans e2) ((r2.tb st.symm).unset i) (by simpa using l2) (back e2 S2) q2
    · exact k2 _ _ _ _ _ (e.trans e2) (r2.tb st.symm) (back e2 S2) q2
    · exact k3 _ _ _ _ _ (e.trans e2) ((r2.tb st.symm).unset i) (by simpa using l2) (back e2 S2) q2
    · exact k4 _ _ _ _ _ (e.trans e2) ((r2.tb st.symm).unset i) (by simpa using l2) (back e2 S2) q2
theorem as_try {n x : Str} {c : Value} {i : Nat} {body suite : List Stmt} {b₀ : Stmt} {np pos pos' : Pos} {sub : Nat → Option Bool} {τb : DS} {τh : Addr → Xn → DS} (hT : T.xd = none) (hs : X.stack = X.env :: X.outer) (hf : X.env.frame = some X.env.locals) (hN : X.N.Nodup)
    (hi : X.N[i]? = some n) (hln : X.env.kindOf n = some .local) (hc : Names X x c) (tk : Takes X (outE E)) (hx : ∀ k b, sub k = some b → PySem.W.exmOne X.K (.ref (T.xcl k)) c = some b)
    (hb : ∀ (E' : XK) (pn : List (Addr × Obj)) (xe : Value → Shared → Prop), Takes (X.tr pn xe) (outE E') → Passes (L2.CX X.prog X.w) (X.tr pn xe) E' → PassesOwn (model X.prog X.w) X.A X.env xe → PSs (X.tr pn xe) body (cS T E' τb))
    (hh : ∀ (T' : Tb) (a : Addr) (oe : Obj) (d : Option Addr) (pn : List (Addr × Obj)) (y : Xn), T.Same T' → Zc (.ref (T'.xcl y.cls)) d oe → (∃ vs, oe.data = .fields vs) → XdOf T' y d → PSs (X.suite a ((a, oe) :: pn)) (b₀ :: suite) (cS T' E0w (τh a y))) :
    PS X (.Try body [.ExceptHandler (some (.Name x np)) (some n) (b₀ :: suite) pos'] [] [] pos) (cS T E (dTry sub τb τh i)) := by
  refine ⟨fun pins s σ H D I h => ?_⟩
  refine (ps_try_as (Wout := outE E) (ts := fun a cls d => hSuite T τh a cls d) (tb := fun W => cS T (lenE W X.N.length) τb) hs hf hN hi hln hc tk (fun W pn xe tk' po => hb _ pn xe (takes_len (X := X.tr pn xe) tk') (passes_len (X := X.tr pn xe) tk') po) (fun a oe cls d pn hz hfd => ?_)).run pins s σ H D I ?_
  · refine ⟨fun pins s σ H D I h => ?_⟩
    obtain ⟨y, T', st, rfl, hd, q⟩ := h
    exact (hh T' a oe d pn y st hz hfd hd).run pins s σ H D I q
  · obtain ⟨F, σw, M, Dv, rs, hl, S, t, k1, k2, k3, k4, kx⟩ := h
    refine ⟨F, σw, M, _, rs, hl, S, t, k1, k2, k3, k4, fun y M' cls d H' F' e rx S' q σr hr => ?_⟩
    exact catch_ok hT hx k1 k2 k3 k4 e rx S' q (fun q _ => kx _ _ _ _ _ _ e rx S' q) (by rw [hr, ← I.len]; exact hl)
def dKind (kp : Xn → Mh → QW → Prop) (τ : DE) : DE := fun σ M Q _ => τ σ M (fun _ M1 => Q (.str "") M1) (fun x M1 => kp x M1 Q)
structure KiF (T : Tb) (X : Cx) (x : Str) (kp : Xn → Mh → QW → Prop) (TT : (XK → Hp → VK → Prop) → Hp → VK → Prop) : Prop where
  ex : ∃ (g : Addr) (pg : Arguments) (bg : List Stmt) (sg : Scope) (dV kV doc pm cdv ct oc : Value) (an od : Option Addr) (osl : Array (Option Value)) (Ng : List Str) (a : Str),
    X.mg x = some (.ref g) ∧ PySem.W.keepIn X.K (.ref g) = true ∧ X.K.lookup g = some ⟨oc, od, .func (PySem.W.fnOf x x pg bg sg dV kV doc pm an cdv ct), osl⟩ ∧ PySem.W.codeIn X.K cdv x = true ∧
    L2.Binds X.K (PySem.W.fnOf x x pg bg sg dV kV doc pm an cdv ct) [a] [] ∧ FnScope Ng [a] sg ∧ Ng[0]? = some a ∧ Vis sg a ∧ (a == ("__debug__" : Str)) = false ∧ (a == ("__classdict__" : Str)) = false ∧
    ∀ q, LamX.GivesTo X Ng x sg g cdv bg a q TT
  tt : ∀ (tl : XK → Hp → VK → Prop) (F : Addr → Prop) (H : Hp) (M : Mh) (Qw : QW) (Q : VK), Sim T F H M →
    (∀ w M' v H' F', Ext F H F' H' → RW T F' H' w v → Sim T F' H' M' → Qw w M' → Q v H') →
    (∀ (E' : XK) (Q' : VK), (∀ M' H' F', Ext F H F' H' → Sim T F' H' M' → ∀ v, Qw (.str "") M' → Q' v H') → ExK T E' F H (fun y M1 => kp y M1 Qw) → tl E' H Q') → TT tl H Q
def LmF (T : Tb) (X : Cx) : Prop := ∃ c P, LamX.TabB X.base X.mg c P ∧ X.env.code = .ref c ∧ (P, X.env.qual ++ "<lambda>") ∈ T.tabs ∧ ∀ p ∈ T.tabs, p.1 = P → p.2 = X.env.qual ++ "<lambda>"
theorem ext_tabs {F : Addr → Prop} {H H1 : Hp} {M : Mh} (S : Sim T F H M) (e : LamX.ExtN H H1) (t : LamX.Tabs T.tabs H1) : Ext F H F H1 ∧ Sim T F H1 M := by
  have x : Ext F H F H1 := ⟨fun a f => ⟨f, by
    obtain ⟨ho, h1, h2⟩ := S.fz a f
    rw [h1]
    exact e a ho h1 fun ps z => by subst z; exact h2⟩, fun a xs h => e a _ h fun ps z => (nomatch z), fun a o u h => e a _ h fun ps z => (nomatch z)⟩
  refine ⟨x, ⟨fun a o q => ?_, fun a f => ?_, ⟨t, fun d us h => e _ _ (S.tk.xd d us h) fun ps z => nomatch z⟩⟩⟩
  · obtain ⟨nf, ho, h1, h2⟩ := S.ob a o q
    exact ⟨nf, ho, e a ho h1 fun ps z => by subst z; exact h2.wrt, h2.ext x⟩
  · obtain ⟨ho, h1, h2⟩ := S.fz a f
    exact ⟨ho, by rw [(x.fz a f).2]; exact h1, h2⟩
theorem ae_kind {k : Nat} {x : Str} {kp : Xn → Mh → QW → Prop} {TT : (XK → Hp → VK → Prop) → Hp → VK → Prop} {params : Arguments} {body : Expr} {scope : Scope} {τ : DE} {p lpos pos : Pos} (K : KiF T X x kp TT) (hg : Gl X x) (hn : okName x = true) (lm : LmF T X) (hr : Room (k + 2) X.A) (L : LamX.LamS X.env.scope scope)
    (hdef : defaultsOf params X.env = ([], [])) (hbind : ∀ (q : Str) (cl : List (Str × Addr)) (pm cv ctv : Value), bindArgs (PySem.W.kla_fn "<lambda>" q params body scope cl pm cv ctv) ⟨[], []⟩ = pure [])
    (hbody : ∀ (A : Around) (outer : List Env) (s : Shared) (H : Hp) (E : XK) (f c' : Addr), Room k (A.deeper (LamX.lamEnv X scope s.heap.objs.size f c')) → PE (LamX.lamCx X A outer s H E scope f c') body (cE T E τ)) :
    PE X (.Call (.Name x p) [.Lambda params body scope lpos] [] pos) (cE T E (dKind kp τ)) := by
  obtain ⟨g, pg, bg, sg, dV, kV, doc, pm, cdv, ct, oc, an, od, osl, Ng, a, h1, h2, h3, h4, h5, h6, h7, h8, h9, h10, h11⟩ := K.ex
  obtain ⟨c, P, l1, l2, l3, l4⟩ := lm
  refine PE.imp (LamX.pe_lamcall (T := T.tabs) (k := k) (c := c) (P := P) (t := fun E => cE T E τ) hg h1 h2 h3 h4 h5 h6 h7 h8 (h11 _) l1 l2 l3 l4 hr L hdef hbind hbody (okName_of hn).1 h9 h10) fun σ H Q h => ?_
  obtain ⟨F, σw, M, Qw, Ew, rs, S, t, kq, kx⟩ := h
  refine ⟨S.tk.tb, fun H1 e t1 => ?_⟩
  obtain ⟨x1, S1⟩ := ext_tabs S e t1
  refine K.tt _ F H1 M Qw Q S1 (fun w M' v H' F' e' r S' q => kq w M' v H' F' (x1.trans e') r S' q) fun E' Q' hq hx => ?_
  exact ⟨F, σw, M, _, _, rs.ext x1, S1, t, fun w M' v H' F' e' r S' q => hq M' H' F' e' S' v q, hx⟩
def dvK (Q : QW) : Dw := { nx := fun _ M => fgQ Q (.str "") M, rt := fgQ Q, ex := noX }
abbrev wK (T : Tb) (K : PySem.W.Frag) (CS : Value) (τh : Addr → Xn → DS) (Q : VK) : WX :=
  wAs K CS 1 (fun a cls d => hSuite T τh a cls d) (fun _ _ _ _ => False) { nx := fun _ H => Q (.str "") H, rt := Q }
def TTk (T : Tb) (K : PySem.W.Frag) (CS : Value) (τh : Addr → Xn → DS) (n : Nat) : (XK → Hp → VK → Prop) → Hp → VK → Prop := fun tl H Q => tl (lenE (wK T K CS τh Q) n) H fun _ H' => Q (.str "") H'
theorem takes_lenW {W : WX} (tk : Takes X W) : Takes X (fun cls d σ H => σ.length = X.N.length → W cls d σ H) := fun u s' ⟨a, B, sI, pins, σ, H, cls, d, e, I, nb, up, sky, na, os, ag, w⟩ =>
  tk u s' ⟨a, B, sI, pins, σ, H, cls, d, e, I, nb, up, sky, na, os, ag, w I.len⟩
theorem kind_gives {Ng : List Str} {x a n ex q : Str} {sg : Scope} {g : Addr} {cdg CS : Value} {τh : Addr → Xn → DS} {b₀ : Stmt} {suite : List Stmt} {j : Nat} {p1 p2 p3 p4 p5 p6 p7 p8 : Pos} (hNd : Ng.Nodup) (h1 : Ng[1]? = some n) (hsn : sg.names.lookup n = some .local)
    (hge : sg.names.lookup ex = some .globalImplicit) (hme : X.mg ex = some CS) (hde : (ex == ("__debug__" : Str)) = false) (h0 : ∀ f : Addr, (L2.start Ng [V.ref f])[0]? = some (some (V.ref f)))
    (hh : ∀ (s : Shared) (H : Hp) (T' : Tb) (b : Addr) (oe : Obj) (d : Option Addr) (pn : List (Addr × Obj)) (y : Xn), T.Same T' → Zc (.ref (T'.xcl y.cls)) d oe → (∃ vs, oe.data = .fields vs) → XdOf T' y d →
      PSs ((cxOf C8.CX0 X.prog X.w X.K X.mg X.base Ng x sg g cdg X.A X.stack s H C8.E0).nox.suite b ((b, oe) :: pn)) (b₀ :: suite) (cS T' E0w (τh b y))) :
    LamX.GivesTo X Ng x sg g cdg [.Try [.Expr (.Call (.Name a p1) [] [] p2) p3] [.ExceptHandler (some (.Name ex p4)) (some n) (b₀ :: suite) p5] [] [] p6, .Return (some (.Constant (.str "") j p7)) p8] a q (TTk T X.K CS τh Ng.length) := by
  intro f c' s H Q tl act hc h
  have hgl : Gl (cxOf C8.CX0 X.prog X.w X.K X.mg X.base Ng x sg g cdg X.A X.stack s H C8.E0).nox ex := hge
  refine ⟨_, pss_cons (ps_try_as (X := (cxOf C8.CX0 X.prog X.w X.K X.mg X.base Ng x sg g cdg X.A X.stack s H C8.E0).nox) (i := 1) (c := CS) (ts := fun b cls d => hSuite T τh b cls d)
      (tb := fun W D σ H => ∃ Ech : XK, (∀ cls d σ' H', Ech cls d H' → σ'.length = Ng.length → W cls d σ' H') ∧ σ[0]? = some (some (.ref f)) ∧ H c' = some (LamX.CodeO c' q) ∧ tl Ech H fun _ H1 => D.nx σ H1)
      rfl rfl hNd h1 hsn ⟨hgl, hde, .inl hme⟩ LamX.takes0 (fun W pn xe tk _ => ?_) (fun b oe cls d pn hz hfd => ?_)) (pss_one (ps_ret pe_str)), ?_⟩
  · refine ⟨fun pins s' σ H' D I h' => ?_⟩
    obtain ⟨Ech, hW, h1, h2, h3⟩ := h'
    have hp := act (fun cls d σ H => σ.length = Ng.length → W cls d σ H) pn xe Ech p1 p2 (takes_lenW tk) hW
    exact (pss_one (ps_expr (pos := p3) hp)).run pins s' σ H' D I ⟨h1, h2, h3⟩
  · refine ⟨fun pins s' σ H' D I h' => ?_⟩
    obtain ⟨y, T', st, rfl, hd, h'⟩ := h'
    exact (hh s H T' b oe d pn y st hz hfd hd).run pins s' σ H' D I h'
  · exact ⟨lenE (wK T X.K CS τh Q) Ng.length, fun cls d σ' H' h2 hl => h2 σ' hl, h0 f, hc, h⟩
theorem kind_tt {K : PySem.W.Frag} {CS : Value} {τh : Addr → Xn → DS} {n : Nat} {sub : Nat → Option Bool} {kp : Xn → Mh → QW → Prop} (hT : T.xd = none) (hx : ∀ k b, sub k = some b → PySem.W.exmOne K (.ref (T.xcl k)) CS = some b)
    (hk : ∀ y M Q, kp y M Q → dCatch sub τh 1 n (dvK Q) y M) (tl : XK → Hp → VK → Prop) (F : Addr → Prop) (H : Hp) (M : Mh) (Qw : QW) (Q : VK) (S : Sim T F H M)
    (kq : ∀ w M' v H' F', Ext F H F' H' → RW T F' H' w v → Sim T F' H' M' → Qw w M' → Q v H')
    (h : ∀ (E' : XK) (Q' : VK), (∀ M' H' F', Ext F H F' H' → Sim T F' H' M' → ∀ v, Qw (.str "") M' → Q' v H') → ExK T E' F H (fun y M1 => kp y M1 Qw) → tl E' H Q') : TTk T K CS τh n tl H Q := by
  refine h _ _ (fun M' H' F' e S' v q => kq _ _ _ _ _ e (RW.str_.mpr rfl) S' q) fun y M' cls d H' F' e rx S' q σr hr => ?_
  refine catch_ok (n := n) (Dv := dvK Qw) hT hx (fun _ _ _ _ _ e2 _ _ S2 q2 => ?_) (fun w _ _ _ _ e2 r2 S2 q2 => ?_) (fun _ _ _ _ _ _ _ _ _ q2 => q2.elim) (fun _ _ _ _ _ _ _ _ _ q2 => q2.elim) e rx S' (hk y M' Qw q) (fun q _ => q.elim) (Nat.le_of_eq hr.symm)
  · obtain ⟨M2, s, q2⟩ := q2
    exact kq _ _ _ _ _ e2 (RW.str_.mpr rfl) (S2.less s) q2
  · obtain ⟨M2, s, q2⟩ := q2
    exact kq _ _ _ _ _ e2 r2 (S2.less s) q2
structure IcF (T : Tb) (X : Cx) (c : Nat) : Prop where
  cl : Cls X.K (T.cls c)
  ha : PySem.W.findIn X.K (.ref (T.cls c)) "__class__" = some (some (.builtin "object.__class__"))
  hn : PySem.W.specialIn X.K (.builtin "object.__class__") "__get__" = some (some (.builtin "getset_descriptor.__get__"))
  ht : PySem.W.takesIn X.K (.builtin "object.__class__") = some true
  hm : PySem.W.mroIn X.K (T.cls c) (.type "object") = some true
def iscW (r : Nat → Option Bool) (M : Mh) (x : W) : Option Bool := match tyW M x with
  | some _ => some false
  | none => (insW M x).bind fun p => r p.1
def dIsc (r : Nat → Option Bool) (τ : DE) : DE := fun σ M Q Ex => τ σ M (fun x M1 => ∃ b, iscW r M1 x = some b ∧ Q (.bl b) M1) Ex
theorem ae_isc {c : Nat} {r : Nat → Option Bool} {x : Str} {e : Expr} {τ : DE} {p q pos : Pos} (hK : X.K = T.K) (h1 : Gl X "isinstance") (h2 : X.mg "isinstance" = none) (hg : Gl X x) (hm : X.mg x = some (.ref (T.cls c))) (hn : okName x = true)
    (hb : ∀ t : Ty, PySem.W.kitOne X.K (.type t.name) (.ref (T.cls c)) = some false) (hr : ∀ c' b, r c' = some b → IcF T X c' ∧ PySem.W.kitOne X.K (.ref (T.cls c')) (.ref (T.cls c)) = some b) (he : PE X e (cE T E τ)) (hs : noStar e = true) :
    PE X (.Call (.Name "isinstance" p) [e, .Name x q] [] pos) (cE T E (dIsc r τ)) := by
  have hv : PE X (.Name x q) (tC (.ref (T.cls c))) := pe_glob hg hm rfl (okName_of hn).1
  refine PE.imp (pe_callB call_isi h1 h2 (by decide +kernel) (pa_cons he (pa_cons hv pa_nil (star_cons rfl)) (star_cons hs)) (by decide) (by decide) (star_cons hs) (star_any rfl)) fun σ H Q h => ?_
  obtain ⟨F, σw, M, Qw, Ew, rs, S, t', kq, kx⟩ := h
  refine ⟨F, σw, M, _, Ew, rs, S, t', fun y M1 v H1 F1 e1 r1 S1 ⟨b, h5, q⟩ => ?_, kx⟩
  have fin := kq _ _ _ _ _ e1 (RW.bl_.mpr rfl) S1 q
  unfold iscW at h5
  cases ht : tyW M1 y with
  | some s =>
    rw [ht] at h5
    cases h5
    refine ⟨v, .ref (T.cls c), .type s.name, .ref (T.cls c), false, rfl, .own _, ?_, hb s, fin⟩
    rw [hK]
    exact tyW_ok S1 r1 ht
  | none =>
    rw [ht] at h5
    cases hi : insW M1 y with
    | none => simp only [hi] at h5; cases h5
    | some p =>
      simp only [hi, Option.bind_some] at h5
      obtain ⟨⟨i1, i2, i3, i4, i5⟩, h6⟩ := hr _ _ h5
      obtain ⟨a, dx, us, rfl, h7, _⟩ := insW_ok S1 r1 (c := p.1) (ns := p.2) hi
      exact ⟨.ref a, .ref (T.cls c), .ref (T.cls p.1), .ref (T.cls c), b, rfl, .own _, .base (.ins h7 i1 i2 i3 i4 i5), h6, fin⟩
end WL
namespace WL
open PySem PySem.Spec PyProof.Rows L2

mutual
inductive Ex where
  | lit (w : W) | var (i : Nat) | glob (g : Nat)
  | tup (es : Es) | lst (own : Bool) (es : Es)
  | bin (op : Operator) (own : Bool) (a b : Ex) | neg (a : Ex)
  | cmp (op : CmpOp) (a b : Ex) | chain (op op' : CmpOp) (a b c : Ex)
  | not (a : Ex) | bool (isAnd : Bool) (es : Es)
  | ite (t a b : Ex) | idx (a b : Ex) | slice (own : Bool) (a : Ex) (lo hi : Eo)
  | call (f : Nat) (es : Es) | new (own : Bool) (c : Nat) (es : Es) | meth (m : Nat) (o : Ex) (es : Es) | attr (o : Ex) (f : Str)
  | blt (own : Bool) (b : BI) (es : Es) | bm (own : Bool) (b : BM) (o : Ex) (es : Es)
  | isi (t : Ty) (e : Ex) | isi2 (t u : Ty) (e : Ex)
  | lc (own : Bool) (elt : Ex) (tg : Tg) (src : Sr) (cond : Eo) (vs : List (Str × Nat))
  | dget (d k : Ex) | din (neg : Bool) (k d : Ex) | dnew | kidx (g : Nat) (k : Ex) | kin (neg : Bool) (g : Nat) (k : Ex) | kget (g : Nat) (k : Ex)
  | disp (own : Bool) (ks : List Str) (es : Es)
  | frz (a : Ex)
  | rev (own : Bool) (a : Ex) | lrg (own : Bool) (a : Ex) | sset (own : Bool) (a : Ex)
  | kindL (a : Ex) | isx (i : Nat) (c : Option Nat) | xfl (i : Nat) (f : Str) | isc (c : Nat) (a : Ex)
  | dfz (a : Ex) | lock (a : Ex) | op1 (o : Op1) (own : Bool) (a : Ex) | op2 (o : Op2) (own : Bool) (a b : Ex)
inductive Es where
  | nil | cons (e : Ex) (es : Es)
inductive Eo where
  | none | some (e : Ex)
inductive Sr where
  | seq (e : Ex) | rg1 (e : Ex) | rg2 (a b : Ex) | zip (a b : Ex) | enum (e : Ex) | keys (e : Ex)
end
mutual
inductive Sc where
  | asg (tg : Tg) (e : Ex) | expr (e : Ex) | ret (e : Ex) | ite (t : Ex) (a b : Ss) | for_ (tg : Tg) (src : Sr) (body : Ss) | while_ (t : Ex) (body : Ss)
  | fld (o : Ex) (f : Str) (e : Ex) | set (o i e : Ex) | dput (o i e : Ex) | never | lock (s : Sc)
  | raise (c : Nat) | try_ (body : Ss) (c i : Nat) (h : Ss)
inductive Ss where
  | nil | cons (s : Sc) (ss : Ss)
end
structure Gam where
  gl : Nat → W
  kd : Nat → List (Str × W)
  fn : Nat → Wp
  ini : Nat → Wp
  me : Nat → Nat → Option Wp
  meN : Nat → Str
  /-- two levels below -/
  fnL : Nat → Wp
  iniL : Nat → Wp
  meL : Nat → Nat → Option Wp
  two : Bool
  /-- what is held -/
  xn : Option (Addr × Xn)
  isx : Option Nat → Nat → Option Bool
  sub : Nat → Nat → Option Bool
  xf : Nat → Str → Bool
  isc : Nat → Nat → Option Bool
  kind : Xn → Mh → QW → Prop
def Gam.low (Γ : Gam) : Gam := { Γ with fn := Γ.fnL, ini := Γ.iniL, me := Γ.meL, two := false, xn := none }
def Gam.held (Γ : Gam) (a : Addr) (x : Xn) : Gam := { Γ with xn := some (a, x) }
def cmpP : CmpOp → W → W → Mh → QW → Prop
  | .Eq => eqV_ | .NotEq => neV_ | .Lt => ltW | .LtE => leW | .Gt => gtW | .GtE => geW | .Is => isW false | .IsNot => isW true | .In => inW false | .NotIn => inW true
def binP (own : Bool) : Operator → W → W → Mh → QW → Prop
  | .Add => addW own | .Sub => subW | .Mult => mulW own | .Mod => modW | .FloorDiv => fdivW | .Pow => powW
  | _ => fun _ _ _ _ => False
def finD (own : Bool) (p : Addr) (kws : List (Key × W)) (M : Mh) (Q : QW) : Prop := match own with
  | true => Q (.ref p) (mup M p (.dk kws))
  | false => Q (.dk (kws.map (·.1)) (kws.map (·.2))) (mdel M p)
def dDisp (own : Bool) (ks : List Str) (ρ : DA) : DE := fun σ M Q Ex => ∀ p, M p = none → ρ σ (mup M p (.dk [])) (fun ws M2 => M2 p = some (.dk []) ∧ finD own p (zipK (ks.map Sum.inr) ws) M2 Q) Ex
def frzO : MO → W
  | .lst ws => .lst ws
  | .dk kvs => .dk (kvs.map (·.1)) (kvs.map (·.2))
  | .dt kvs => .dt (kvs.map (·.1)) (kvs.map (·.2))
  | .lk kvs => .dk (kvs.map (·.1)) (kvs.map (·.2))
  | .lkt kvs => .dt (kvs.map (·.1)) (kvs.map (·.2))
  | .ins c fs => .obj c (fs.map (·.1)) (fs.map (·.2))
def frzW : W → Mh → QW → Prop
  | .ref a, M, Q => ∃ o, M a = some o ∧ notLk o = true ∧ Q (frzO o) (mdel M a)
  | _, _, _ => False
def dFrz (τ : DE) : DE := fun σ M Q Ex => τ σ M (fun w M1 => frzW w M1 Q) Ex
structure DX where
  e : DE
  t : DT
structure DXs where
  a : DA
  v : Bool → DE
  t : Bool → DT
  /-- .. of one? -/
  n : Nat
mutual
def dX (Γ : Gam) : Ex → DX
  | .lit w => let e := dC w; ⟨e, dTru e⟩
  | .var i => let e := dVar i; ⟨e, dTru e⟩
  | .glob g => let e := dC (Γ.gl g); ⟨e, dTru e⟩
  | .tup es => let e := dTup (dXs Γ es).a; ⟨e, dTru e⟩
  | .lst own es => let e := dLst own (dXs Γ es).a; ⟨e, dTru e⟩
  | .bin op own a b => let e := d2 (binP own op) (dX Γ a).e (dX Γ b).e; ⟨e, dTru e⟩
  | .neg a => let e := d1 negW (dX Γ a).e; ⟨e, dTru e⟩
  | .cmp op a b => let e := d2 (cmpP op) (dX Γ a).e (dX Γ b).e; ⟨e, dB e⟩
  | .chain op op' a b c => let e := dChain (cmpP op) (cmpP op') (dX Γ a).e (dX Γ b).e (dX Γ c).e; ⟨e, dB e⟩
  | .not a => ⟨dNotV (dX Γ a).e, dNotT (dX Γ a).t⟩
  | .bool isAnd es => ⟨(dXs Γ es).v isAnd, (dXs Γ es).t isAnd⟩
  | .ite t a b => let e := dIte (dX Γ t).t (dX Γ a).e (dX Γ b).e; ⟨e, fun _ _ _ _ => False⟩
  | .idx a b => let e := d2 idxW (dX Γ a).e (dX Γ b).e; ⟨e, dTru e⟩
  | .slice own a lo hi => let e := dSlice own (dX Γ a).e (dXo Γ lo).1 (dXo Γ hi).1; ⟨e, dTru e⟩
  | .call f es => let e := dCall (Γ.fn f) (dXs Γ es).a; ⟨e, dTru e⟩
  | .new own c es => let e := dNew own c (Γ.ini c) (dXs Γ es).a; ⟨e, dTru e⟩
  | .meth m o es => let e := dMeth (fun c => Γ.me c m) (Γ.meN m) (dX Γ o).e (dXs Γ es).a; ⟨e, dTru e⟩
  | .attr o f => let e := dAttr (dX Γ o).e f; ⟨e, dTru e⟩
  | .blt own b es => let e := dN (b.w own) (dXs Γ es).a; ⟨e, dTru e⟩
  | .bm own b o es => let e := dBM own b (dX Γ o).e (dXs Γ es).a; ⟨e, dTru e⟩
  | .isi t a => let e := dIsi t (dX Γ a).e; ⟨e, dTru e⟩
  | .isi2 t u a => let e := dIsi2 t u (dX Γ a).e; ⟨e, dTru e⟩
  | .lc own elt tg src cond vs => let e := dLc own (dXi Γ src) tg (dXo Γ cond).2 (dX Γ elt).e (vs.map (·.2)); ⟨e, dTru e⟩
  | .dget d k => let e := dDget (dX Γ d).e (dX Γ k).e; ⟨e, dTru e⟩
  | .din neg k d => let e := dDin neg (dX Γ k).e (dX Γ d).e; ⟨e, dB e⟩
  | .dnew => let e := dDnew; ⟨e, dTru e⟩
  | .kidx g k => let e := dKidx (Γ.kd g) (dX Γ k).e; ⟨e, dTru e⟩
  | .kin neg g k => let e := dKin neg (Γ.kd g) (dX Γ k).e; ⟨e, dB e⟩
  | .kget g k => let e := dKget (Γ.kd g) (dX Γ k).e; ⟨e, dTru e⟩
  | .disp own ks es => let e := dDisp own ks (dXs Γ es).a; ⟨e, dTru e⟩
  | .frz a => let e := dFrz (dX Γ a).e; ⟨e, dTru e⟩
  | .rev own a => let e := dRev own (dX Γ a).e; ⟨e, dTru e⟩
  | .lrg own a => let e := dLrg own (dX Γ a).e; ⟨e, dTru e⟩
  | .sset own a => let e := dSset own (dX Γ a).e; ⟨e, dTru e⟩
  | .dfz a => let e := dDfz (dX Γ a).e; ⟨e, dTru e⟩
  | .lock a => let e := dLock (dX Γ a).e; ⟨e, dTru e⟩
  | .kindL a => let e := fun σ M Q Ex => Γ.two = true ∧ dKind Γ.kind (dX Γ.low a).e σ M Q Ex; ⟨e, dTru e⟩
  | .isx i c => let e := dIsx Γ.xn (Γ.isx c) i; ⟨e, dTru e⟩
  | .xfl i f => let e := dXfl Γ.xn Γ.xf i f; ⟨e, dTru e⟩
  | .isc c a => let e := dIsc (Γ.isc c) (dX Γ a).e; ⟨e, dTru e⟩
  | .op1 o own a => let e := d1 (o.w own) (dX Γ a).e; ⟨e, dTru e⟩
  | .op2 o own a b => let e := d2 (o.w own) (dX Γ a).e (dX Γ b).e; ⟨e, dTru e⟩
def dXs (Γ : Gam) : Es → DXs
  | .nil => ⟨dNil, fun _ _ _ _ _ => False, fun _ _ _ _ _ => False, 0⟩
  | .cons e es => ⟨dCons (dX Γ e).e (dXs Γ es).a,
      fun isAnd => if (dXs Γ es).n = 0 then (dX Γ e).e else dJoinV isAnd (dX Γ e).e ((dXs Γ es).v isAnd),
      fun isAnd => if (dXs Γ es).n = 0 then (dX Γ e).t else dJoinT isAnd (dX Γ e).t ((dXs Γ es).t isAnd), (dXs Γ es).n + 1⟩
def dXo (Γ : Gam) : Eo → DO × DT
  | .none => (dNoPart, dYes)
  | .some e => (dPart (dX Γ e).e, (dX Γ e).t)
def dXi (Γ : Gam) : Sr → DI
  | .seq e => iSeqD (dX Γ e).e
  | .rg1 e => iRg1 (dX Γ e).e
  | .rg2 a b => iRg2 (dX Γ a).e (dX Γ b).e
  | .zip a b => iZip (dX Γ a).e (dX Γ b).e
  | .enum e => iEnumD (dX Γ e).e
  | .keys e => iKeysD (dX Γ e).e
end
mutual
def dSc (Γ : Gam) : Sc → DS
  | .asg tg e => dAsg (dX Γ e).e tg
  | .expr e => dExpr (dX Γ e).e
  | .ret e => dRet (dX Γ e).e
  | .ite t a b => dIf (dX Γ t).t (dSs Γ a) (dSs Γ b)
  | .for_ tg src body => dFor (dXi Γ src) tg (dSs Γ body)
  | .while_ t body => dWhile (dX Γ t).t (dSs Γ body)
  | .fld o f e => dFld (dX Γ o).e (dX Γ e).e f
  | .set o i e => dSet (dX Γ o).e (dX Γ i).e (dX Γ e).e
  | .dput o i e => dDput (dX Γ o).e (dX Γ i).e (dX Γ e).e
  | .never => dNever
  | .lock s => dLockS (dSc Γ s)
  | .raise c => dRaise c
  | .try_ body c i h => dTry (Γ.sub c) (dSs Γ body) (fun a x => dSs (Γ.held a x) h) i
def dSs (Γ : Gam) : Ss → DS
  | .nil => dNext
  | .cons s ss => dSeq (dSc Γ s) (dSs Γ ss)
end

def asName : Expr → Option Str
  | .Name x _ => some x
  | _ => none
theorem asName_of {e : Expr} {x : Str} (h : asName e = some x) : ∃ p, e = .Name x p := by
  cases e <;> first | (cases h; exact ⟨_, rfl⟩) | cases h
def asConst : Expr → Option Const
  | .Constant c _ _ => some c
  | _ => none
theorem asConst_of {e : Expr} {c : Const} (h : asConst e = some c) : ∃ k p, e = .Constant c k p := by
  cases e <;> first | (cases h; exact ⟨_, _, rfl⟩) | cases h
def asTuple : Expr → Option (List Expr)
  | .Tuple es _ _ => some es
  | _ => none
theorem asTuple_of {e : Expr} {l : List Expr} (h : asTuple e = some l) : ∃ k p, e = .Tuple l k p := by
  cases e <;> first | (cases h; exact ⟨_, _, rfl⟩) | cases h
def asList : Expr → Option (List Expr)
  | .List es _ => some es
  | _ => none
theorem asList_of {e : Expr} {l : List Expr} (h : asList e = some l) : ∃ p, e = .List l p := by
  cases e <;> first | (cases h; exact ⟨_, rfl⟩) | cases h
def asBin : Expr → Option (Expr × Operator × Expr)
  | .BinOp a op b _ => some (a, op, b)
  | _ => none
theorem asBin_of {e a b : Expr} {op : Operator} (h : asBin e = some (a, op, b)) : ∃ p, e = .BinOp a op b p := by
  cases e <;> first | (cases h; exact ⟨_, rfl⟩) | cases h
def asUn : Expr → Option (UnaryOp × Expr)
  | .UnaryOp op a _ => some (op, a)
  | _ => none
theorem asUn_of {e a : Expr} {op : UnaryOp} (h : asUn e = some (op, a)) : ∃ p, e = .UnaryOp op a p := by
  cases e <;> first | (cases h; exact ⟨_, rfl⟩) | cases h
def asCmp1 : Expr → Option (Expr × CmpOp × Expr)
  | .Compare a [op] [b] _ => some (a, op, b)
  | _ => none
theorem asCmp1_of {e a b : Expr} {op : CmpOp} (h : asCmp1 e = some (a, op, b)) : ∃ p, e = .Compare a [op] [b] p := by
  unfold asCmp1 at h
  split at h
  · cases h; exact ⟨_, rfl⟩
  · cases h
def asCmp2 : Expr → Option (Expr × CmpOp × Expr × CmpOp × Expr)
  | .Compare a [op, op'] [b, c] _ => some (a, op, b, op', c)
  | _ => none
theorem asCmp2_of {e a b c : Expr} {op op' : CmpOp} (h : asCmp2 e = some (a, op, b, op', c)) : ∃ p, e = .Compare a [op, op'] [b, c] p := by
  unfold asCmp2 at h
  split at h
  · cases h; exact ⟨_, rfl⟩
  · cases h
def asBool : Expr → Option (BoolOp × List Expr)
  | .BoolOp op es _ => some (op, es)
  | _ => none
theorem asBool_of {e : Expr} {op : BoolOp} {l : List Expr} (h : asBool e = some (op, l)) : ∃ p, e = .BoolOp op l p := by
  cases e <;> first | (cases h; exact ⟨_, rfl⟩) | cases h
def asIf : Expr → Option (Expr × Expr × Expr)
  | .IfExp t a b _ => some (t, a, b)
  | _ => none
theorem asIf_of {e t a b : Expr} (h : asIf e = some (t, a, b)) : ∃ p, e = .IfExp t a b p := by
  cases e <;> first | (cases h; exact ⟨_, rfl⟩) | cases h
def asSub : Expr → Option (Expr × Expr)
  | .Subscript a b _ => some (a, b)
  | _ => none
theorem asSub_of {e a b : Expr} (h : asSub e = some (a, b)) : ∃ p, e = .Subscript a b p := by
  cases e <;> first | (cases h; exact ⟨_, rfl⟩) | cases h
def asSlice : Expr → Option (Option Expr × Option Expr)
  | .Slice lo hi none _ => some (lo, hi)
  | _ => none
theorem asSlice_of {e : Expr} {lo hi : Option Expr} (h : asSlice e = some (lo, hi)) : ∃ p, e = .Slice lo hi none p := by
  unfold asSlice at h
  split at h
  · cases h; exact ⟨_, rfl⟩
  · cases h
def asCall : Expr → Option (Expr × List Expr × Pos)
  | .Call f es [] p => some (f, es, p)
  | _ => none
theorem asCall_of {e f : Expr} {l : List Expr} {p : Pos} (h : asCall e = some (f, l, p)) : e = .Call f l [] p := by
  unfold asCall at h
  split at h
  · cases h; rfl
  · cases h
def asAttr : Expr → Option (Expr × Str × Pos)
  | .Attribute o f p => some (o, f, p)
  | _ => none
theorem asAttr_of {e o : Expr} {f : Str} {p : Pos} (h : asAttr e = some (o, f, p)) : e = .Attribute o f p := by
  cases e <;> first | (cases h; rfl) | cases h
def asLC : Expr → Option (Expr × Expr × Expr × List Expr × Scope × Pos)
  | .ListComp elt [⟨tg, iter, ifs, 0⟩] scope p => some (elt, tg, iter, ifs, scope, p)
  | _ => none
theorem asLC_of {e elt tg iter : Expr} {ifs : List Expr} {scope : Scope} {p : Pos} (h : asLC e = some (elt, tg, iter, ifs, scope, p)) : e = .ListComp elt [⟨tg, iter, ifs, 0⟩] scope p := by
  unfold asLC at h
  split at h
  · cases h; rfl
  · cases h
def asDict : Expr → Option (List (Option Expr) × List Expr)
  | .Dict ks vs _ => some (ks, vs)
  | _ => none
theorem asDict_of {e : Expr} {ks : List (Option Expr)} {vs : List Expr} (h : asDict e = some (ks, vs)) : ∃ p, e = .Dict ks vs p := by
  cases e <;> first | (cases h; exact ⟨_, rfl⟩) | cases h
def isRev : Expr → Bool
  | .Slice none none (some (.UnaryOp .USub (.Constant (.int 1) _ _) _)) _ => true
  | _ => false
theorem isRev_of {e : Expr} (h : isRev e = true) : ∃ k p1 p2 p3, e = .Slice none none (some (.UnaryOp .USub (.Constant (.int 1) k p1) p2)) p3 := by
  unfold isRev at h
  split at h
  · exact ⟨_, _, _, _, rfl⟩
  · cases h
def asCC : Expr → Option (Expr × Expr × Expr)
  | .Call g [.Call g2 [x] [] _] [] _ => some (g, g2, x)
  | _ => none
theorem asCC_of {e g g2 x : Expr} (h : asCC e = some (g, g2, x)) : ∃ p p2, e = .Call g [.Call g2 [x] [] p2] [] p := by
  unfold asCC at h
  split at h
  · cases h; exact ⟨_, _, rfl⟩
  · cases h
def litOk : W → Const → Bool
  | .int i, .int j => decide (i = j)
  | .bl i, .bool j => decide (i = j)
  | .str i, .str j => decide (i = j)
  | .non, .none => true
  | _, _ => false
structure Nm where
  /-- classes of exceptions; those raised by a text; classes that are asked for; the def that tells the kind -/
  xc : Nat → Option Str
  xr : Nat → Bool
  ic : Nat → Bool
  kn : Option Str
  fn : Nat → Option Str
  cl : Nat → Option Str
  me : Nat → Str
  gl : Nat → Option Str
  kd : Nat → Option Str
  flds : List Str
  free : List Str
structure Ck where
  N : List Str
  sc : Scope
  fno : Str → Bool
  hot : Bool
def Ck.blk (k : Ck) (scope : Scope) : Ck := ⟨k.N, relS scope k.sc, fun x => scope.names.lookup x == some .cell, k.hot⟩
def Ck.lam (k : Ck) (scope : Scope) : Ck := ⟨k.N, scope, fun _ => false, false⟩
def Ck.suite (k : Ck) : Ck := ⟨k.N, k.sc, k.fno, true⟩
def asLam : Expr → Option (Expr × Scope)
  | .Lambda ⟨[], [], none, [], [], none, []⟩ b s _ => some (b, s)
  | _ => none
theorem asLam_of {e b : Expr} {s : Scope} (h : asLam e = some (b, s)) : ∃ p, e = .Lambda ⟨[], [], none, [], [], none, []⟩ b s p := by
  unfold asLam at h
  split at h
  · cases h; exact ⟨_, rfl⟩
  · cases h
def chkTg (k : Ck) : Tg → Expr → Bool
  | .name i, e => match asName e with
    | some x => decide (k.N[i]? = some x) && locB k.sc x && (k.fno x || decide (k.sc.names.lookup x = some .local))
    | none => false
  | .tup is, e => match asTuple e with
    | some l => !k.hot && l.all isName && chkNames k is l
    | none => false
where
  chkNames (k : Ck) : List Nat → List Expr → Bool
  | [], [] => true
  | i :: is, e :: es => (match asName e with
    | some x => decide (k.N[i]? = some x) && locB k.sc x && (k.fno x || decide (k.sc.names.lookup x = some .local))
    | none => false) && chkNames k is es
  | _, _ => false
def isTupE : Expr → Bool
  | .Tuple .. => true
  | _ => false
def glName (k : Ck) (x : Option Str) (e : Expr) : Bool := match x, asName e with
  | some x, some y => decide (x = y) && glB k.sc x && okName x
  | _, _ => false
def freeName (nm : Nm) (k : Ck) (x : Str) (e : Expr) : Bool := match asName e with
  | some y => decide (x = y) && glB k.sc x && nm.free.contains x
  | none => false
def freeStr (nm : Nm) (k : Ck) (x : Str) : Bool := glB k.sc x && nm.free.contains x
def keysOf : List Str → List (Option Expr) → Bool
  | [], [] => true
  | k :: ks, some e :: es => (match asConst e with
    | some (.str y) => decide (k = y)
    | _ => false) && keysOf ks es
  | _, _ => false
def fullT : Bool × Bool → Bool := fun p => p.1 && p.2
structure Ch where
  e : Ck → Expr → Bool
  t : Ck → Expr → Bool
def Ch.pl (f : Ck → Expr → Bool) : Ch := ⟨f, fun k e => plainTest e && f k e⟩
def ifsB (c : Option (Ck → Expr → Bool)) (k : Ck) (ifs : List Expr) : Bool := match c, ifs with
  | none, [] => true
  | some c, [x] => c k x
  | _, _ => false
def lcB (k : Ck) (tg : Tg) (vs : List (Str × Nat)) (ci : Ck → Expr → Expr → Bool) (cc : Option (Ck → Expr → Bool)) (ce : Ck → Expr → Bool) (el t it : Expr) (ifs : List Expr) (scope : Scope) : Bool :=
  !k.hot && blkC k.N k.sc scope vs && chkTg (k.blk scope) tg t && ci k t it && noSet it && ifsB cc (k.blk scope) ifs && ce (k.blk scope) el && tg.slots.all (fun i => (vs.map (·.2)).contains i)
mutual
def chk (nm : Nm) : Ex → Ch
  | .lit w => .pl fun _ e => match asConst e with | some c => litOk w c | none => false
  | .var i => .pl fun k e => match asName e with | some x => decide (k.N[i]? = some x) && visB k.sc x && okName x | none => false
  | .glob g => .pl fun k e => glName k (nm.gl g) e
  | .tup es => .pl fun k e => match asTuple e with | some l => chks nm es k l | none => false
  | .lst _ es => .pl fun k e => match asList e with | some l => chks nm es k l | none => false
  | .bin op _ a b => .pl fun k e => match asBin e with
    | some (x, o, y) => decide (o = op) && [Operator.Add, .Sub, .Mult, .Mod, .FloorDiv, .Pow].contains op && (chk nm a).e k x && (chk nm b).e k y
    | none => false
  | .neg a => .pl fun k e => match asUn e with | some (.USub, x) => (chk nm a).e k x | _ => false
  | .cmp op a b => let f := fun k e => match asCmp1 e with | some (x, o, y) => decide (o = op) && noSet y && (chk nm a).e k x && (chk nm b).e k y | none => false; ⟨f, f⟩
  | .chain op op' a b c => let f := fun k e => match asCmp2 e with | some (x, o, y, o', z) => decide (o = op) && decide (o' = op') && noSet z && (chk nm a).e k x && (chk nm b).e k y && (chk nm c).e k z | none => false; ⟨f, f⟩
  | .not a => ⟨fun k e => match asUn e with | some (.Not, x) => (chk nm a).e k x | _ => false, fun k e => match asUn e with | some (.Not, x) => (chk nm a).t k x | _ => false⟩
  | .bool isAnd es => ⟨fun k e => match asBool e with | some (op, l) => decide ((op == .And) = isAnd) && chks nm es k l && !l.isEmpty | none => false,
      fun k e => match asBool e with | some (op, l) => decide ((op == .And) = isAnd) && chkts nm es k l && !l.isEmpty | none => false⟩
  | .ite t a b => ⟨fun k e => match asIf e with | some (x, y, z) => (chk nm t).t k x && (chk nm a).e k y && (chk nm b).e k z | none => false, fun _ _ => false⟩
  | .idx a b => .pl fun k e => match asSub e with | some (x, y) => plainIx y && (chk nm a).e k x && (chk nm b).e k y | none => false
  | .slice _ a lo hi => .pl fun k e => match asSub e with
    | some (x, y) => (match asSlice y with | some (l, h) => (chk nm a).e k x && chko nm lo k l && chko nm hi k h | none => false)
    | none => false
  | .call f es => .pl fun k e => match asCall e with | some (g, l, _) => !k.hot && glName k (nm.fn f) g && l.all noStar && chks nm es k l | none => false
  | .new _ c es => .pl fun k e => match asCall e with | some (g, l, _) => !k.hot && glName k (nm.cl c) g && l.all noStar && chks nm es k l | none => false
  | .meth m o es => .pl fun k e => match asCall e with
    | some (g, l, p) => (match asAttr g with
      | some (ov, x, ap) => !k.hot && decide (x = nm.me m) && plainBase ov && (ap.endLine == p.line) && l.all noStar && decide (l.length < 29) && (chk nm o).e k ov && chks nm es k l
      | none => false)
    | none => false
  | .attr o f => .pl fun k e => match asAttr e with | some (ov, x, _) => decide (x = f) && nm.flds.contains f && plainBase ov && (chk nm o).e k ov | none => false
  | .blt _ b es => .pl fun k e => match asCall e with | some (g, l, _) => !k.hot && freeName nm k b.name g && l.all noStar && !l.isEmpty && chks nm es k l | none => false
  | .bm _ b o es => .pl fun k e => match asCall e with
    | some (g, l, p) => (match asAttr g with
      | some (ov, x, ap) => decide (x = b.name) && plainBase ov && (ap.endLine == p.line) && l.all noStar && decide (l.length < 29) && (chk nm o).e k ov && chks nm es k l
      | none => false)
    | none => false
  | .isi t a => .pl fun k e => match asCall e with
    | some (g, [x, y], _) => freeName nm k "isinstance" g && (match t.asName with | some z => freeName nm k z y | none => false) && noStar x && (chk nm a).e k x
    | _ => false
  | .isi2 t u a => .pl fun k e => match asCall e with
    | some (g, [x, y], _) => freeName nm k "isinstance" g && (match t.asName, u.asName, asTuple y with | some z, some z', some [y1, y2] => freeName nm k z y1 && freeName nm k z' y2 | _, _, _ => false) && noStar x && (chk nm a).e k x
    | _ => false
  | .lc _ elt tg src cond vs => .pl fun k e => match asLC e with
    | some (el, t, it, ifs, scope, _) => lcB k tg vs (chki nm src) (chkq nm cond) (chk nm elt).e el t it ifs scope
    | none => false
  | .dget d b => .pl fun k e => match asSub e with | some (x, y) => plainIx y && (chk nm d).e k x && (chk nm b).e k y | none => false
  | .din neg a d => let f := fun k e => match asCmp1 e with | some (x, o, y) => decide (o = if neg then CmpOp.NotIn else CmpOp.In) && noSet y && (chk nm a).e k x && (chk nm d).e k y | none => false; ⟨f, f⟩
  | .dnew => .pl fun _ e => match asDict e with | some ([], []) => true | _ => false
  | .kidx g a => .pl fun k e => match asSub e with | some (x, y) => glName k (nm.kd g) x && plainIx y && (chk nm a).e k y | none => false
  | .kin neg g a => let f := fun k e => match asCmp1 e with | some (x, o, y) => decide (o = if neg then CmpOp.NotIn else CmpOp.In) && glName k (nm.kd g) y && (chk nm a).e k x | none => false; ⟨f, f⟩
  | .kget g a => .pl fun k e => match asCall e with
    | some (f, [x], p) => (match asAttr f with
      | some (ov, y, ap) => decide (y = "get") && glName k (nm.kd g) ov && (ap.endLine == p.line) && noStar x && (chk nm a).e k x
      | none => false)
    | _ => false
  | .disp _ ks es => .pl fun k e => match asDict e with | some (kl, vl) => keysOf ks kl && decide (ks.Nodup) && !ks.isEmpty && decide (ks.length ≤ 15) && decide (kl.length = vl.length) && chks nm es k vl | none => false
  | .frz a => .pl (chk nm a).e
  | .rev _ a => .pl fun k e => match asSub e with | some (x, y) => isRev y && (chk nm a).e k x | none => false
  | .lrg _ a => .pl fun k e => match asCC e with | some (g, g2, x) => !k.hot && freeName nm k "list" g && freeName nm k "range" g2 && noStar x && (chk nm a).e k x | none => false
  | .sset _ a => .pl fun k e => match asCC e with | some (g, g2, x) => !k.hot && freeName nm k "sorted" g && freeName nm k "set" g2 && noStar x && (chk nm a).e k x | none => false
  | .dfz a => .pl (chk nm a).e
  | .lock a => .pl (chk nm a).e
  | .kindL a => .pl fun k e => match asCall e with
    | some (g, [l], _) => (match asLam l with
      | some (b, sc) => !k.hot && glName k nm.kn g && LamX.lamSB k.sc sc && (chk nm a).e (k.lam sc) b
      | none => false)
    | _ => false
  | .isx i c => .pl fun k e => match asCall e with
    | some (g, [x, y], _) => freeName nm k "isinstance" g && noStar y && (match asName x with | some z => decide (k.N[i]? = some z) && visB k.sc z && okName z | none => false) &&
      (match c with | some c => glName k (nm.xc c) y | none => freeName nm k "ValueError" y)
    | _ => false
  | .xfl i f => .pl fun k e => match asAttr e with
    | some (ov, x, _) => decide (x = f) && (match asName ov with | some z => decide (k.N[i]? = some z) && visB k.sc z && okName z | none => false)
    | none => false
  | .isc c a => .pl fun k e => match asCall e with
    | some (g, [x, y], _) => freeName nm k "isinstance" g && glName k (nm.cl c) y && nm.ic c && noStar x && (chk nm a).e k x
    | _ => false
  | .op1 o _ a => .pl fun k e => match o.pat e with | some (fr, x) => !k.hot && fr.all (freeStr nm k) && noStar x && (chk nm a).e k x | none => false
  | .op2 o _ a b => .pl fun k e => match o.pat e with | some (fr, x, y) => !k.hot && fr.all (freeStr nm k) && noStar x && noStar y && (chk nm a).e k x && (chk nm b).e k y | none => false
def chks (nm : Nm) : Es → Ck → List Expr → Bool
  | .nil, _, [] => true
  | .cons e es, k, x :: xs => noStar x && (chk nm e).e k x && chks nm es k xs
  | _, _, _ => false
def chkts (nm : Nm) : Es → Ck → List Expr → Bool
  | .nil, _, [] => true
  | .cons e es, k, x :: xs => (chk nm e).t k x && chkts nm es k xs
  | _, _, _ => false
def chko (nm : Nm) : Eo → Ck → Option Expr → Bool
  | .none, _, none => true
  | .some e, k, some x => (chk nm e).e k x
  | _, _, _ => false
def chkq (nm : Nm) : Eo → Option (Ck → Expr → Bool)
  | .none => none
  | .some e => some (chk nm e).t
def chki (nm : Nm) : Sr → Ck → Expr → Expr → Bool
  | .seq e, k, _, x => (chk nm e).e k x
  | .rg1 e, k, _, x => (match asCall x with | some (g, [y], _) => freeName nm k "range" g && noStar y && (chk nm e).e k y | _ => false)
  | .rg2 a b, k, _, x => (match asCall x with | some (g, [y, z], _) => freeName nm k "range" g && noStar y && noStar z && (chk nm a).e k y && (chk nm b).e k z | _ => false)
  | .zip a b, k, t, x => isTupE t && (match asCall x with | some (g, [y, z], _) => freeName nm k "zip" g && noStar y && noStar z && (chk nm a).e k y && (chk nm b).e k z | _ => false)
  | .enum e, k, t, x => isTupE t && (match asCall x with | some (g, [y], _) => freeName nm k "enumerate" g && noStar y && (chk nm e).e k y | _ => false)
  | .keys e, k, _, x => (chk nm e).e k x
end
end WL
namespace WL
open PySem PySem.Spec PyProof.Rows L2
variable {Γ : Gam} {nm : Nm} {T : Tb} {n : Nat}

def GlF (T : Tb) (X : Cx) (x : Str) (w : W) : Prop := ∃ u v, X.mg x = some u ∧ RelV v u ∧ ∀ F H, RW T F H w v
def tgtV (T : Tb) : Option Nat → Value
  | some c => .ref (T.xcl c)
  | none => .type "ValueError"
structure Lo (Γ : Gam) (nm : Nm) (T : Tb) (n : Nat) (X : Cx) : Prop where
  n2 : 2 ≤ n
  fn : ∀ f x, nm.fn f = some x → FnF T X (n - 2 + 1) x (Γ.fnL f)
  cl : ∀ c x, nm.cl c = some x → MkF T X (n - 2) c x (Γ.iniL c)
  me : ∀ m c p, Γ.meL c m = some p → MeF T X (n - 2 + 1) c (Γ.meN m) p
  lm : LmF T X
  ki : ∀ x, nm.kn = some x → ∀ X' : Cx, X'.prog = X.prog → X'.w = X.w → X'.K = X.K → X'.mg = X.mg → X'.base = X.base → X'.A.units + 100 < cLine → ∃ TT, KiF T X' x Γ.kind TT
structure Fx (Γ : Gam) (nm : Nm) (T : Tb) (n : Nat) (X : Cx) (E : XK) : Prop where
  K : X.K = T.K
  nd : X.N.Nodup
  units : X.A.units + 65 < cLine
  room : X.calm = true → Room (n + 1) X.A
  xd : X.calm = true → T.xd = none
  kind : X.env.scope.kind = .function
  fn : X.calm = true → ∀ f x, nm.fn f = some x → FnF T X (n + 1) x (Γ.fn f)
  cl : X.calm = true → ∀ c x, nm.cl c = some x → MkF T X n c x (Γ.ini c)
  cg : ∀ c x, nm.cl c = some x → X.mg x = some (.ref (T.cls c))
  me : X.calm = true → ∀ m c p, Γ.me c m = some p → MeF T X (n + 1) c (Γ.meN m) p
  meN : ∀ m, Γ.meN m = nm.me m
  gl : ∀ g x, nm.gl g = some x → GlF T X x (Γ.gl g)
  kd : ∀ g x, nm.kd g = some x → KdF T X x (Γ.kd g)
  flds : ClF T X nm.flds
  free : ∀ x, nm.free.contains x = true → X.mg x = none
  ps : Passes (L2.CX X.prog X.w) X E
  xg : ∀ c x, nm.xc c = some x → X.mg x = some (.ref (T.xcl c))
  xr : ∀ c, nm.xr c = true → XrF T X c
  isx : ∀ c k b, Γ.isx c k = some b → XkF T X k ∧ PySem.W.kitOne X.K (.ref (T.xcl k)) (tgtV T c) = some b
  sub : ∀ c k b, Γ.sub c k = some b → PySem.W.exmOne X.K (.ref (T.xcl k)) (.ref (T.xcl c)) = some b
  xf : ∀ c f, Γ.xf c f = true → XkF T X c ∧ PySem.W.findIn X.K (.ref (T.xcl c)) f = some none
  isc : ∀ c k b, Γ.isc c k = some b → IcF T X k ∧ PySem.W.kitOne X.K (.ref (T.cls k)) (.ref (T.cls c)) = some b
  ic : ∀ c, nm.ic c = true → ∀ t : Ty, PySem.W.kitOne X.K (.type t.name) (.ref (T.cls c)) = some false
  xn : ∀ a x, Γ.xn = some (a, x) → XnF T X a x
  lo : X.calm = true → Γ.two = true → Lo Γ nm T n X
structure Cor (k : Ck) (X : Cx) : Prop where
  N : X.N = k.N
  sc : X.env.scope = k.sc
  fno : ∀ x, k.fno x = true → X.fn x = true
  hot : k.hot = false → X.calm = true
theorem Cor.cold {k : Ck} {X : Cx} (c : Cor k X) (h : (!k.hot) = true) : X.calm = true := c.hot (by simpa using h)
theorem passes_E0w {X : Cx} : Passes (L2.CX X.prog X.w) X E0w := fun _ _ _ _ _ _ _ h => by
  obtain ⟨_, _, _, _, _, _, _, _, _, _, _, _, q⟩ := h
  exact q.elim
theorem Fx.blk {X : Cx} {E : XK} {scope : Scope} (f : Fx Γ nm T n X E) (hc : X.calm = true) (hk : scope.kind = .function) (s : Shared) (H : Hp) (C : Addr) (cl : List (Str × Addr)) (fp : List Addr) : Fx Γ nm T n (X.blk s H scope (compEnvC scope cl C X.env) fp) E0w :=
  { f with
    kind := hk
    flds := ⟨f.flds.cl, f.flds.no⟩
    ps := passes_E0w
    room := fun _ => f.room hc
    xd := fun _ => f.xd hc
    xr := fun c h => ⟨(f.xr c h).ex, (f.xr c h).kp, (f.xr c h).ra, (f.xr c h).ty⟩
    isc := fun c k b h => ⟨⟨(f.isc c k b h).1.cl, (f.isc c k b h).1.ha, (f.isc c k b h).1.hn, (f.isc c k b h).1.ht, (f.isc c k b h).1.hm⟩, (f.isc c k b h).2⟩
    xn := fun a x h => by
      obtain ⟨X0, oe, pn, d, e, _⟩ := f.xn a x h
      rw [e] at hc
      cases hc
    fn := f.fn
    cl := f.cl
    me := f.me
    lo := fun hc h => ⟨(f.lo hc h).n2, (f.lo hc h).fn, (f.lo hc h).cl, (f.lo hc h).me, (f.lo hc h).lm, (f.lo hc h).ki⟩ }
theorem Cor.blk {X : Cx} {k : Ck} {scope : Scope} (c : Cor k X) (s : Shared) (H : Hp) (C : Addr) (cl : List (Str × Addr)) (fp : List Addr) : Cor (k.blk scope) (X.blk s H scope (compEnvC scope cl C X.env) fp) :=
  ⟨c.N, by show relS scope X.env.scope = relS scope k.sc; rw [c.sc], fun x h => h, c.hot⟩
def GoodE (Γ : Gam) (nm : Nm) (T : Tb) (n : Nat) (c : Ck → Expr → Bool) (d : DE) : Prop := ∀ X E k e, Fx Γ nm T n X E → Cor k X → c k e = true → PE X e (cE T E d)
def GoodT (Γ : Gam) (nm : Nm) (T : Tb) (n : Nat) (c : Ck → Expr → Bool) (d : DT) : Prop := ∀ X E k e, Fx Γ nm T n X E → Cor k X → c k e = true → PT X e (cT T E d)
structure Good (Γ : Gam) (nm : Nm) (T : Tb) (n : Nat) (c : Ch) (d : DX) : Prop where
  e : GoodE Γ nm T n c.e d.e
  t : GoodT Γ nm T n c.t d.t
structure GoodS (Γ : Gam) (nm : Nm) (T : Tb) (n : Nat) (c ct : Ck → List Expr → Bool) (d : DXs) : Prop where
  a : ∀ X E k l, Fx Γ nm T n X E → Cor k X → c k l = true → PA X l (cA T E d.a) ∧ l.all noStar = true ∧ l.length = d.n
  nt : ∀ k l, ct k l = true → l.length = d.n
  nil : d.n = 0 → d.a = dNil
  va : ∀ X E k l pos, Fx Γ nm T n X E → Cor k X → c k l = true → l ≠ [] → PE X (.BoolOp .And l pos) (cE T E (d.v true))
  vo : ∀ X E k l pos, Fx Γ nm T n X E → Cor k X → c k l = true → l ≠ [] → PE X (.BoolOp .Or l pos) (cE T E (d.v false))
  ta : ∀ X E k l pos, Fx Γ nm T n X E → Cor k X → ct k l = true → l ≠ [] → L2.PW X (.BoolOp .And l pos) (cT T E (d.t true))
  to : ∀ X E k l pos, Fx Γ nm T n X E → Cor k X → ct k l = true → l ≠ [] → L2.PW X (.BoolOp .Or l pos) (cT T E (d.t false))
structure GoodQ (Γ : Gam) (nm : Nm) (T : Tb) (n : Nat) (c : Ck → Option Expr → Bool) (cc : Option (Ck → Expr → Bool)) (d : DO × DT) : Prop where
  o : ∀ X E k l, Fx Γ nm T n X E → Cor k X → c k l = true → PO X l (cO T E d.1)
  q : (cc = none ∧ d.2 = dYes) ∨ ∃ c, cc = some c ∧ GoodT Γ nm T n c d.2
def GoodI (Γ : Gam) (nm : Nm) (T : Tb) (n : Nat) (c : Ck → Expr → Expr → Bool) (d : DI) : Prop := ∀ X E k t e, Fx Γ nm T n X E → Cor k X → c k t e = true → PI X t e (cI T E d)
theorem Good.pl {c : Ck → Expr → Bool} {d : DE} (h : GoodE Γ nm T n c d) : Good Γ nm T n (.pl c) ⟨d, dTru d⟩ := ⟨h, fun X E k e f r q => by
  have q : (plainTest e && c k e) = true := q
  rw [Bool.and_eq_true] at q
  exact at_tru f.K (h X E k e f r q.2) q.1⟩

section
variable {X : Cx} {E : XK} {k : Ck}
theorem gl_of (r : Cor k X) {x : Str} (h : glB k.sc x = true) : Gl X x := by
  have h := of_decide_eq_true h
  show X.env.scope.names.lookup x = _
  rw [r.sc]; exact h
theorem Cor.vis (r : Cor k X) {x : Str} (h : visB k.sc x = true) : Vis X.env.scope x := by rw [r.sc]; exact vis_of h
theorem Cor.loc (r : Cor k X) {x : Str} (h : locB k.sc x = true) : Loc X.env.scope x := by rw [r.sc]; exact loc_of h
theorem glName_of (r : Cor k X) {o : Option Str} {e : Expr} (h : glName k o e = true) : ∃ x p, o = some x ∧ e = .Name x p ∧ Gl X x ∧ okName x = true := by
  unfold glName at h
  split at h
  · rename_i x y h2
    simp only [Bool.and_eq_true, decide_eq_true_eq] at h
    obtain ⟨⟨rfl, h3⟩, h4⟩ := h
    obtain ⟨p, rfl⟩ := asName_of h2
    exact ⟨_, p, rfl, rfl, gl_of r h3, h4⟩
  · cases h
theorem freeName_of (f : Fx Γ nm T n X E) (r : Cor k X) {x : Str} {e : Expr} (h : freeName nm k x e = true) : ∃ p, e = .Name x p ∧ Gl X x ∧ X.mg x = none := by
  unfold freeName at h
  split at h
  · rename_i y h2
    simp only [Bool.and_eq_true, decide_eq_true_eq] at h
    obtain ⟨⟨rfl, h3⟩, h4⟩ := h
    obtain ⟨p, rfl⟩ := asName_of h2
    exact ⟨p, rfl, gl_of r h3, f.free _ h4⟩
  · cases h
end

theorem RK.names' {κ : Type} {F : Addr → Prop} {H : Hp} : ∀ {fs : List (κ × W)} {us : List (κ × V)}, RK T F H fs us → fs.map (·.1) = us.map (·.1)
  | [], _, h => by rw [show _ = _ from h]; rfl
  | (n, w) :: fs, _, h => by
    obtain ⟨v, r, rfl, _, h2⟩ := h
    rw [List.map_cons, List.map_cons, RK.names' h2]
theorem RK.vals' {κ : Type} {F : Addr → Prop} {H : Hp} : ∀ {fs : List (κ × W)} {us : List (κ × V)}, RK T F H fs us → RWs T F H (fs.map (·.2)) (us.map (·.2))
  | [], _, h => by rw [show _ = _ from h]; exact .nil
  | (n, w) :: fs, _, h => by
    obtain ⟨v, r, rfl, h1, h2⟩ := h
    exact .cons h1 (RK.vals' h2)
theorem g_lit (w : W) : GoodE Γ nm T n (fun _ e => match asConst e with | some c => litOk w c | none => false) (dC w) := fun X E k e f r h => by
  simp only at h
  split at h
  · rename_i c hc
    obtain ⟨j, p, rfl⟩ := asConst_of hc
    unfold litOk at h
    split at h
    · rw [of_decide_eq_true h]; exact ae_C pe_int fun _ _ => RW.int_.mpr rfl
    · rw [of_decide_eq_true h]; exact ae_C pe_bl fun _ _ => RW.bl_.mpr rfl
    · rw [of_decide_eq_true h]; exact ae_C pe_str fun _ _ => RW.str_.mpr rfl
    · exact ae_C pe_non fun _ _ => RW.non_.mpr rfl
    · cases h
  · cases h
theorem g_var (i : Nat) : GoodE Γ nm T n (fun k e => match asName e with | some x => decide (k.N[i]? = some x) && visB k.sc x && okName x | none => false) (dVar i) := fun X E k e f r h => by
  simp only at h
  split at h
  · rename_i x hx
    obtain ⟨p, rfl⟩ := asName_of hx
    simp only [Bool.and_eq_true, decide_eq_true_eq] at h
    have hn := okName_of h.2
    exact ae_var (pe_var (by rw [r.N]; exact h.1.1) (r.vis h.1.2) hn.1 hn.2.1)
  · cases h
theorem g_glob (g : Nat) : GoodE Γ nm T n (fun k e => glName k (nm.gl g) e) (dC (Γ.gl g)) := fun X E k e f r h => by
  obtain ⟨x, p, h1, rfl, hg, hn⟩ := glName_of r h
  obtain ⟨u, v, h2, h3, h4⟩ := f.gl g x h1
  exact ae_C (pe_glob hg h2 h3 (okName_of hn).1) h4
theorem g_tup {cs ct : Ck → List Expr → Bool} {d : DXs} (g : GoodS Γ nm T n cs ct d) : GoodE Γ nm T n (fun k e => match asTuple e with | some l => cs k l | none => false) (dTup d.a) := fun X E k e f r h => by
  simp only at h
  split at h
  · rename_i l hl
    obtain ⟨j, p, rfl⟩ := asTuple_of hl
    exact ae_tup (g.a X E k l f r h).1
  · cases h
theorem g_lst {own : Bool} {cs ct : Ck → List Expr → Bool} {d : DXs} (g : GoodS Γ nm T n cs ct d) : GoodE Γ nm T n (fun k e => match asList e with | some l => cs k l | none => false) (dLst own d.a) := fun X E k e f r h => by
  simp only at h
  split at h
  · rename_i l hl
    obtain ⟨p, rfl⟩ := asList_of hl
    exact ae_lst (g.a X E k l f r h).1
  · cases h
theorem g_bin {op : Operator} {own : Bool} {ca cb : Ck → Expr → Bool} {da db : DE} (ga : GoodE Γ nm T n ca da) (gb : GoodE Γ nm T n cb db) :
    GoodE Γ nm T n (fun k e => match asBin e with
    | some (x, o, y) => decide (o = op) && [Operator.Add, .Sub, .Mult, .Mod, .FloorDiv, .Pow].contains op && ca k x && cb k y
    | none => false) (d2 (binP own op) da db) := fun X E k e f r h => by
  simp only at h
  split at h
  · rename_i x o y hb
    obtain ⟨p, rfl⟩ := asBin_of hb
    simp only [Bool.and_eq_true, decide_eq_true_eq] at h
    obtain ⟨⟨⟨rfl, hc⟩, h1⟩, h2⟩ := h
    have a := ga X E k x f r h1
    have b := gb X E k y f r h2
    cases o with
    | Add => exact ae_op op_addV (by rw [f.K]; exact ok_add) a b
    | Sub => exact ae_op op_sub ok_sub a b
    | Mult => exact ae_op op_mulV (by rw [f.K]; exact ok_mul) a b
    | Mod => exact ae_op op_mod ok_mod a b
    | FloorDiv => exact ae_op op_fdiv ok_fdiv a b
    | Pow => exact ae_op op_pow ok_pow a b
    | _ => exact absurd hc (by decide)
  · cases h
theorem g_neg {ca : Ck → Expr → Bool} {da : DE} (ga : GoodE Γ nm T n ca da) : GoodE Γ nm T n (fun k e => match asUn e with | some (.USub, x) => ca k x | _ => false) (d1 negW da) := fun X E k e f r h => by
  simp only at h
  split at h
  · rename_i x hx
    obtain ⟨p, rfl⟩ := asUn_of hx
    exact ae_neg (ga X E k x f r h)
  · cases h
theorem units_of {X : Cx} {E : XK} (f : Fx Γ nm T n X E) : X.A.units + 65 < cLine := f.units
theorem g_cmp {op : CmpOp} {ca cb : Ck → Expr → Bool} {da db : DE} (ga : GoodE Γ nm T n ca da) (gb : GoodE Γ nm T n cb db) :
    Good Γ nm T n ⟨fun k e => match asCmp1 e with | some (x, o, y) => decide (o = op) && noSet y && ca k x && cb k y | none => false, fun k e => match asCmp1 e with | some (x, o, y) => decide (o = op) && noSet y && ca k x && cb k y | none => false⟩
      ⟨d2 (cmpP op) da db, dB (d2 (cmpP op) da db)⟩ := by
  have key : ∀ X E k e, Fx Γ nm T n X E → Cor k X → (match asCmp1 e with | some (x, o, y) => decide (o = op) && noSet y && ca k x && cb k y | none => false) = true →
      PE X e (cE T E (d2 (cmpP op) da db)) ∧ PT X e (cT T E (dB (d2 (cmpP op) da db))) := fun X E k e f r h => by
    split at h
    · rename_i x o y hb
      obtain ⟨p, rfl⟩ := asCmp1_of hb
      simp only [Bool.and_eq_true, decide_eq_true_eq] at h
      obtain ⟨⟨⟨rfl, hc⟩, h1⟩, h2⟩ := h
      have a := ga X E k x f r h1
      have b := gb X E k y f r h2
      have hu := units_of f
      have hu' : X.A.units + 64 < cLine := by omega
      have m := fun o : CmpOp => marks_of (op := o) hc
      cases o with
      | Eq => exact ⟨ae_cmp (op_eqV hu') (by rw [f.K]; exact ok_eq) a b (m _), at_cmp (op_eqV hu') (by rw [f.K]; exact ok_eq) a b (m _)⟩
      | NotEq => exact ⟨ae_cmp (op_neV hu') (by rw [f.K]; exact ok_ne) a b (m _), at_cmp (op_neV hu') (by rw [f.K]; exact ok_ne) a b (m _)⟩
      | Lt => exact ⟨ae_cmp op_lt ok_lt a b (m _), at_cmp op_lt ok_lt a b (m _)⟩
      | LtE => exact ⟨ae_cmp op_le ok_le a b (m _), at_cmp op_le ok_le a b (m _)⟩
      | Gt => exact ⟨ae_cmp op_gt ok_gt a b (m _), at_cmp op_gt ok_gt a b (m _)⟩
      | GtE => exact ⟨ae_cmp op_ge ok_ge a b (m _), at_cmp op_ge ok_ge a b (m _)⟩
      | Is => exact ⟨ae_cmp op_isV ok_is a b (m _), at_cmp op_isV ok_is a b (m _)⟩
      | IsNot => exact ⟨ae_cmp op_notV ok_is a b (m _), at_cmp op_notV ok_is a b (m _)⟩
      | In => exact ⟨ae_cmp op_inV (by rw [f.K]; exact ok_in) a b (m _), at_cmp op_inV (by rw [f.K]; exact ok_in) a b (m _)⟩
      | NotIn => exact ⟨ae_cmp op_notInV (by rw [f.K]; exact ok_in) a b (m _), at_cmp op_notInV (by rw [f.K]; exact ok_in) a b (m _)⟩
    · cases h
  exact ⟨fun X E k e f r h => (key X E k e f r h).1, fun X E k e f r h => (key X E k e f r h).2⟩
theorem opr_of {X : Cx} {E : XK} (f : Fx Γ nm T n X E) (o : CmpOp) : ∃ r, OpR X (compareOp o) r ∧ Ok2 T r (cmpP o) := by
  have hu := units_of f
  have hu' : X.A.units + 64 < cLine := by omega
  cases o with
  | Eq => exact ⟨_, op_eqV hu', by rw [f.K]; exact ok_eq⟩
  | NotEq => exact ⟨_, op_neV hu', by rw [f.K]; exact ok_ne⟩
  | Lt => exact ⟨_, op_lt, ok_lt⟩
  | LtE => exact ⟨_, op_le, ok_le⟩
  | Gt => exact ⟨_, op_gt, ok_gt⟩
  | GtE => exact ⟨_, op_ge, ok_ge⟩
  | Is => exact ⟨_, op_isV, ok_is⟩
  | IsNot => exact ⟨_, op_notV, ok_is⟩
  | In => exact ⟨_, op_inV, by rw [f.K]; exact ok_in⟩
  | NotIn => exact ⟨_, op_notInV, by rw [f.K]; exact ok_in⟩
theorem g_chain {op op' : CmpOp} {ca cb cc : Ck → Expr → Bool} {da db dc : DE} (ga : GoodE Γ nm T n ca da) (gb : GoodE Γ nm T n cb db) (gc : GoodE Γ nm T n cc dc) :
    Good Γ nm T n ⟨fun k e => match asCmp2 e with | some (x, o, y, o', z) => decide (o = op) && decide (o' = op') && noSet z && ca k x && cb k y && cc k z | none => false,
      fun k e => match asCmp2 e with | some (x, o, y, o', z) => decide (o = op) && decide (o' = op') && noSet z && ca k x && cb k y && cc k z | none => false⟩ ⟨dChain (cmpP op) (cmpP op') da db dc, dB (dChain (cmpP op) (cmpP op') da db dc)⟩ := by
  have key : ∀ X E k e, Fx Γ nm T n X E → Cor k X → (match asCmp2 e with | some (x, o, y, o', z) => decide (o = op) && decide (o' = op') && noSet z && ca k x && cb k y && cc k z | none => false) = true →
      PE X e (cE T E (dChain (cmpP op) (cmpP op') da db dc)) ∧ PT X e (cT T E (dB (dChain (cmpP op) (cmpP op') da db dc))) := fun X E k e f r h => by
    split at h
    · rename_i x o y o' z hb
      obtain ⟨p, rfl⟩ := asCmp2_of hb
      simp only [Bool.and_eq_true, decide_eq_true_eq] at h
      obtain ⟨⟨⟨⟨⟨rfl, rfl⟩, hc⟩, h1⟩, h2⟩, h3⟩ := h
      obtain ⟨r1, o1, k1⟩ := opr_of f o
      obtain ⟨r2, o2, k2⟩ := opr_of f o'
      have a := ga X E k x f r h1
      have b := gb X E k y f r h2
      have c := gc X E k z f r h3
      exact ⟨ae_chain o1 o2 k1 k2 a b c (marks_of hc), at_chain o1 o2 k1 k2 a b c (marks_of hc)⟩
    · cases h
  exact ⟨fun X E k e f r h => (key X E k e f r h).1, fun X E k e f r h => (key X E k e f r h).2⟩
theorem g_not {c : Ch} {d : DX} (g : Good Γ nm T n c d) : Good Γ nm T n ⟨fun k e => match asUn e with | some (.Not, x) => c.e k x | _ => false, fun k e => match asUn e with | some (.Not, x) => c.t k x | _ => false⟩ ⟨dNotV d.e, dNotT d.t⟩ := by
  refine ⟨fun X E k e f r h => ?_, fun X E k e f r h => ?_⟩
  · simp only at h
    split at h
    · rename_i x hx
      obtain ⟨p, rfl⟩ := asUn_of hx
      exact ae_notV (g.e X E k x f r h)
    · cases h
  · simp only at h
    split at h
    · rename_i x hx
      obtain ⟨p, rfl⟩ := asUn_of hx
      exact at_not (g.t X E k x f r h)
    · cases h
theorem pt_bool {X : Cx} {op : BoolOp} {l : List Expr} {pos : Pos} {t : TT} (h : L2.PW X (.BoolOp op l pos) t) : PT X (.BoolOp op l pos) t := ⟨h.run _⟩
theorem g_bool {isAnd : Bool} {cs ct : Ck → List Expr → Bool} {d : DXs} (g : GoodS Γ nm T n cs ct d) :
    Good Γ nm T n ⟨fun k e => match asBool e with | some (op, l) => decide ((op == .And) = isAnd) && cs k l && !l.isEmpty | none => false,
      fun k e => match asBool e with | some (op, l) => decide ((op == .And) = isAnd) && ct k l && !l.isEmpty | none => false⟩ ⟨d.v isAnd, d.t isAnd⟩ := by
  refine ⟨fun X E k e f r h => ?_, fun X E k e f r h => ?_⟩
  · simp only at h
    split at h
    · rename_i op l hx
      obtain ⟨p, rfl⟩ := asBool_of hx
      simp only [Bool.and_eq_true, decide_eq_true_eq, Bool.not_eq_true'] at h
      obtain ⟨⟨h1, h2⟩, h3⟩ := h
      have h0 : l ≠ [] := fun z => by rw [z] at h3; cases h3
      cases op with
      | And => rw [show isAnd = true from h1.symm]; exact g.va X E k l p f r h2 h0
      | Or => rw [show isAnd = false from h1.symm]; exact g.vo X E k l p f r h2 h0
    · cases h
  · simp only at h
    split at h
    · rename_i op l hx
      obtain ⟨p, rfl⟩ := asBool_of hx
      simp only [Bool.and_eq_true, decide_eq_true_eq, Bool.not_eq_true'] at h
      obtain ⟨⟨h1, h2⟩, h3⟩ := h
      have h0 : l ≠ [] := fun z => by rw [z] at h3; cases h3
      cases op with
      | And => rw [show isAnd = true from h1.symm]; exact pt_bool (g.ta X E k l p f r h2 h0)
      | Or => rw [show isAnd = false from h1.symm]; exact pt_bool (g.to X E k l p f r h2 h0)
    · cases h
theorem g_ite {ct : Ck → Expr → Bool} {dt : DT} {ca cb : Ck → Expr → Bool} {da db : DE} (gt : GoodT Γ nm T n ct dt) (ga : GoodE Γ nm T n ca da) (gb : GoodE Γ nm T n cb db) :
    Good Γ nm T n ⟨fun k e => match asIf e with | some (x, y, z) => ct k x && ca k y && cb k z | none => false, fun _ _ => false⟩ ⟨dIte dt da db, fun _ _ _ _ => False⟩ := by
  refine ⟨fun X E k e f r h => ?_, fun X E k e f r h => nomatch h⟩
  simp only at h
  split at h
  · rename_i x y z hx
    obtain ⟨p, rfl⟩ := asIf_of hx
    simp only [Bool.and_eq_true] at h
    exact ae_ite (gt X E k x f r h.1.1) (ga X E k y f r h.1.2) (gb X E k z f r h.2)
  · cases h
theorem g_idx {ca cb : Ck → Expr → Bool} {da db : DE} (ga : GoodE Γ nm T n ca da) (gb : GoodE Γ nm T n cb db) :
    GoodE Γ nm T n (fun k e => match asSub e with | some (x, y) => plainIx y && ca k x && cb k y | none => false) (d2 idxW da db) := fun X E k e f r h => by
  simp only at h
  split at h
  · rename_i x y hx
    obtain ⟨p, rfl⟩ := asSub_of hx
    simp only [Bool.and_eq_true] at h
    exact ae_idx f.K (ga X E k x f r h.1.2) (gb X E k y f r h.2) h.1.1
  · cases h
theorem g_dget {ca cb : Ck → Expr → Bool} {da db : DE} (ga : GoodE Γ nm T n ca da) (gb : GoodE Γ nm T n cb db) :
    GoodE Γ nm T n (fun k e => match asSub e with | some (x, y) => plainIx y && ca k x && cb k y | none => false) (dDget da db) := fun X E k e f r h => by
  simp only at h
  split at h
  · rename_i x y hx
    obtain ⟨p, rfl⟩ := asSub_of hx
    simp only [Bool.and_eq_true] at h
    exact ae_dget (by have := units_of f; omega) (ga X E k x f r h.1.2) (gb X E k y f r h.2) h.1.1
  · cases h
theorem g_slice {own : Bool} {ca : Ck → Expr → Bool} {da : DE} {cl ch : Ck → Option Expr → Bool} {cl' ch' : Option (Ck → Expr → Bool)} {dl dh : DO × DT} (ga : GoodE Γ nm T n ca da) (gl : GoodQ Γ nm T n cl cl' dl) (gh : GoodQ Γ nm T n ch ch' dh) :
    GoodE Γ nm T n (fun k e => match asSub e with
    | some (x, y) => (match asSlice y with | some (l, h) => ca k x && cl k l && ch k h | none => false)
    | none => false) (dSlice own da dl.1 dh.1) := fun X E k e f r h => by
  simp only at h
  split at h
  · rename_i x y hx
    obtain ⟨p, rfl⟩ := asSub_of hx
    split at h
    · rename_i l u hy
      obtain ⟨p2, rfl⟩ := asSlice_of hy
      simp only [Bool.and_eq_true] at h
      exact ae_slice f.K (ga X E k x f r h.1.1) (gl.o X E k l f r h.1.2) (gh.o X E k u f r h.2)
    · cases h
  · cases h
theorem g_call {i : Nat} {cs ct : Ck → List Expr → Bool} {d : DXs} (g : GoodS Γ nm T n cs ct d) :
    GoodE Γ nm T n (fun k e => match asCall e with | some (g, l, _) => !k.hot && glName k (nm.fn i) g && l.all noStar && cs k l | none => false) (dCall (Γ.fn i) d.a) := fun X E k e f r h => by
  simp only at h
  split at h
  · rename_i gg l p hx
    have hx := asCall_of hx
    subst hx
    simp only [Bool.and_eq_true] at h
    obtain ⟨⟨⟨h0, h1⟩, h2⟩, h3⟩ := h
    obtain ⟨x, q, h4, rfl, hg, hn⟩ := glName_of r h1
    have A := g.a X E k l f r h3
    have hr := f.room (r.cold h0)
    cases l with
    | nil =>
      rw [g.nil A.2.2.symm]
      exact ae_call0 (f.fn (r.cold h0) i x h4) hr f.ps hg hn
    | cons a l => exact ae_call (f.fn (r.cold h0) i x h4) hr f.ps hg hn A.1 h2
  · cases h
theorem g_new {own : Bool} {i : Nat} {cs ct : Ck → List Expr → Bool} {d : DXs} (g : GoodS Γ nm T n cs ct d) :
    GoodE Γ nm T n (fun k e => match asCall e with | some (g, l, _) => !k.hot && glName k (nm.cl i) g && l.all noStar && cs k l | none => false) (dNew own i (Γ.ini i) d.a) := fun X E k e f r h => by
  simp only at h
  split at h
  · rename_i gg l p hx
    have hx := asCall_of hx
    subst hx
    simp only [Bool.and_eq_true] at h
    obtain ⟨⟨⟨h0, h1⟩, h2⟩, h3⟩ := h
    obtain ⟨x, q, h4, rfl, hg, hn⟩ := glName_of r h1
    have A := g.a X E k l f r h3
    have hr := f.room (r.cold h0)
    cases l with
    | nil =>
      rw [g.nil A.2.2.symm]
      exact ae_new0 (f.cl (r.cold h0) i x h4) hr f.ps hg hn
    | cons a l => exact ae_new (f.cl (r.cold h0) i x h4) hr f.ps hg hn A.1 h2
  · cases h
theorem g_meth {m : Nat} {co : Ck → Expr → Bool} {do_ : DE} {cs ct : Ck → List Expr → Bool} {d : DXs} (go : GoodE Γ nm T n co do_) (g : GoodS Γ nm T n cs ct d) :
    GoodE Γ nm T n (fun k e => match asCall e with
    | some (g, l, p) => (match asAttr g with
      | some (ov, x, ap) => !k.hot && decide (x = nm.me m) && plainBase ov && (ap.endLine == p.line) && l.all noStar && decide (l.length < 29) && co k ov && cs k l
      | none => false)
    | none => false) (dMeth (fun c => Γ.me c m) (Γ.meN m) do_ d.a) := fun X E k e f r h => by
  simp only at h
  split at h
  · rename_i gg l p hx
    have hx := asCall_of hx
    subst hx
    split at h
    · rename_i ov x ap hy
      have hy := asAttr_of hy
      subst hy
      simp only [Bool.and_eq_true, decide_eq_true_eq] at h
      obtain ⟨⟨⟨⟨⟨⟨⟨h0, rfl⟩, h1⟩, h2⟩, h3⟩, h4⟩, h5⟩, h6⟩ := h
      have A := g.a X E k l f r h6
      have hr := f.room (r.cold h0)
      have O := go X E k ov f r h5
      rw [← f.meN m]
      have hm : ∀ c p, (fun c => Γ.me c m) c = some p → MeF T X (n + 1) c (Γ.meN m) p := fun c p z => f.me (r.cold h0) m c p z
      cases l with
      | nil =>
        rw [g.nil A.2.2.symm]
        exact ae_meth0 f.flds hm hr f.ps O h1 h2
      | cons a l => exact ae_meth f.flds hm hr f.ps O A.1 h1 h2 h3 h4
    · cases h
  · cases h
theorem g_attr {fl : Str} {co : Ck → Expr → Bool} {do_ : DE} (go : GoodE Γ nm T n co do_) :
    GoodE Γ nm T n (fun k e => match asAttr e with | some (ov, x, _) => decide (x = fl) && nm.flds.contains fl && plainBase ov && co k ov | none => false) (dAttr do_ fl) := fun X E k e f r h => by
  simp only at h
  split at h
  · rename_i ov x ap hy
    have hy := asAttr_of hy
    subst hy
    simp only [Bool.and_eq_true, decide_eq_true_eq] at h
    obtain ⟨⟨⟨rfl, h1⟩, h2⟩, h3⟩ := h
    exact ae_attr f.flds (List.contains_iff_mem.mp h1) (go X E k ov f r h3) h2
  · cases h
theorem g_blt {own : Bool} {b : BI} {cs ct : Ck → List Expr → Bool} {d : DXs} (g : GoodS Γ nm T n cs ct d) :
    GoodE Γ nm T n (fun k e => match asCall e with | some (g, l, _) => !k.hot && freeName nm k b.name g && l.all noStar && !l.isEmpty && cs k l | none => false) (dN (b.w own) d.a) := fun X E k e f r h => by
  simp only at h
  split at h
  · rename_i gg l p hx
    have hx := asCall_of hx
    subst hx
    simp only [Bool.and_eq_true] at h
    obtain ⟨⟨⟨⟨h0, h1⟩, h2⟩, h3⟩, h4⟩ := h
    obtain ⟨q, rfl, hg, hm⟩ := freeName_of f r h1
    cases l with
    | nil => cases h3
    | cons a l => exact ae_blt f.K (r.cold h0) hg hm (g.a X E k (a :: l) f r h4).1 h2
  · cases h
theorem g_bm {own : Bool} {b : BM} {co : Ck → Expr → Bool} {do_ : DE} {cs ct : Ck → List Expr → Bool} {d : DXs} (go : GoodE Γ nm T n co do_) (g : GoodS Γ nm T n cs ct d) :
    GoodE Γ nm T n (fun k e => match asCall e with
    | some (g, l, p) => (match asAttr g with
      | some (ov, x, ap) => decide (x = b.name) && plainBase ov && (ap.endLine == p.line) && l.all noStar && decide (l.length < 29) && co k ov && cs k l
      | none => false)
    | none => false) (dBM own b do_ d.a) := fun X E k e f r h => by
  simp only at h
  split at h
  · rename_i gg l p hx
    have hx := asCall_of hx
    subst hx
    split at h
    · rename_i ov x ap hy
      have hy := asAttr_of hy
      subst hy
      simp only [Bool.and_eq_true, decide_eq_true_eq] at h
      obtain ⟨⟨⟨⟨⟨⟨rfl, h1⟩, h2⟩, h3⟩, h4⟩, h5⟩, h6⟩ := h
      have A := g.a X E k l f r h6
      have O := go X E k ov f r h5
      cases l with
      | nil =>
        rw [g.nil A.2.2.symm]
        exact ae_bm0 f.K O h1 h2
      | cons a l => exact ae_bm f.K O A.1 h3 h1 h2 h4
    · cases h
  · cases h
theorem g_isi {t : Ty} {ca : Ck → Expr → Bool} {da : DE} (ga : GoodE Γ nm T n ca da) :
    GoodE Γ nm T n (fun k e => match asCall e with
    | some (g, [x, y], _) => freeName nm k "isinstance" g && (match t.asName with | some z => freeName nm k z y | none => false) && noStar x && ca k x
    | _ => false) (dIsi t da) := fun X E k e f r h => by
  simp only at h
  split at h
  · rename_i gg x y p hx
    have hx := asCall_of hx
    subst hx
    simp only [Bool.and_eq_true] at h
    obtain ⟨⟨⟨h1, h2⟩, h3⟩, h4⟩ := h
    obtain ⟨q, rfl, hg, hm⟩ := freeName_of f r h1
    split at h2
    · rename_i z hz
      obtain ⟨q2, rfl, hg2, hm2⟩ := freeName_of f r h2
      exact ae_isi f.K hg hm hz hg2 hm2 (ga X E k x f r h4) h3
    · cases h2
  · cases h
theorem g_isi2 {t u : Ty} {ca : Ck → Expr → Bool} {da : DE} (ga : GoodE Γ nm T n ca da) :
    GoodE Γ nm T n (fun k e => match asCall e with
    | some (g, [x, y], _) => freeName nm k "isinstance" g && (match t.asName, u.asName, asTuple y with | some z, some z', some [y1, y2] => freeName nm k z y1 && freeName nm k z' y2 | _, _, _ => false) && noStar x && ca k x
    | _ => false) (dIsi2 t u da) := fun X E k e f r h => by
  simp only at h
  split at h
  · rename_i gg x y p hx
    have hx := asCall_of hx
    subst hx
    simp only [Bool.and_eq_true] at h
    obtain ⟨⟨⟨h1, h2⟩, h3⟩, h4⟩ := h
    obtain ⟨q, rfl, hg, hm⟩ := freeName_of f r h1
    split at h2
    · rename_i z z' y1 y2 hz hz' hy
      obtain ⟨j, p3, rfl⟩ := asTuple_of hy
      simp only [Bool.and_eq_true] at h2
      obtain ⟨q2, rfl, hg2, hm2⟩ := freeName_of f r h2.1
      obtain ⟨q3, rfl, hg3, hm3⟩ := freeName_of f r h2.2
      exact ae_isi2 f.K hg hm hz hg2 hm2 hz' hg3 hm3 (ga X E k x f r h4) h3
    · cases h2
  · cases h
theorem g_din {neg : Bool} {ca cb : Ck → Expr → Bool} {da db : DE} (ga : GoodE Γ nm T n ca da) (gb : GoodE Γ nm T n cb db) :
    Good Γ nm T n ⟨fun k e => match asCmp1 e with | some (x, o, y) => decide (o = if neg then CmpOp.NotIn else CmpOp.In) && noSet y && ca k x && cb k y | none => false,
      fun k e => match asCmp1 e with | some (x, o, y) => decide (o = if neg then CmpOp.NotIn else CmpOp.In) && noSet y && ca k x && cb k y | none => false⟩ ⟨dDin neg da db, dB (dDin neg da db)⟩ := by
  have key : ∀ X E k e, Fx Γ nm T n X E → Cor k X → (match asCmp1 e with | some (x, o, y) => decide (o = if neg then CmpOp.NotIn else CmpOp.In) && noSet y && ca k x && cb k y | none => false) = true →
      PE X e (cE T E (dDin neg da db)) ∧ PT X e (cT T E (dB (dDin neg da db))) := fun X E k e f r h => by
    split at h
    · rename_i x o y hb
      obtain ⟨p, rfl⟩ := asCmp1_of hb
      simp only [Bool.and_eq_true, decide_eq_true_eq] at h
      obtain ⟨⟨⟨rfl, hc⟩, h1⟩, h2⟩ := h
      have a := ga X E k x f r h1
      have b := gb X E k y f r h2
      have hu : X.A.units + 1 < cLine := by have := units_of f; omega
      cases neg with
      | false => exact ⟨pe_cmp (ac_din hu a b) (marks_of hc), ct_pc (ac_din hu a b) (marks_of hc)⟩
      | true => exact ⟨pe_cmp (ac_dnotin hu a b) (marks_of hc), ct_pc (ac_dnotin hu a b) (marks_of hc)⟩
    · cases h
  exact ⟨fun X E k e f r h => (key X E k e f r h).1, fun X E k e f r h => (key X E k e f r h).2⟩
theorem g_dnew : GoodE Γ nm T n (fun _ e => match asDict e with | some ([], []) => true | _ => false) dDnew := fun X E k e f r h => by
  simp only at h
  split at h
  · rename_i hx
    obtain ⟨p, rfl⟩ := asDict_of hx
    exact ae_dnew
  · cases h
theorem g_kidx {g : Nat} {ca : Ck → Expr → Bool} {da : DE} (ga : GoodE Γ nm T n ca da) :
    GoodE Γ nm T n (fun k e => match asSub e with | some (x, y) => glName k (nm.kd g) x && plainIx y && ca k y | none => false) (dKidx (Γ.kd g) da) := fun X E k e f r h => by
  simp only at h
  split at h
  · rename_i x y hx
    obtain ⟨p, rfl⟩ := asSub_of hx
    simp only [Bool.and_eq_true] at h
    obtain ⟨z, q, h1, rfl, hg, hn⟩ := glName_of r h.1.1
    exact ae_kidx (f.kd g z h1) hg hn (ga X E k y f r h.2) h.1.2
  · cases h
theorem g_kin {neg : Bool} {g : Nat} {ca : Ck → Expr → Bool} {da : DE} (ga : GoodE Γ nm T n ca da) :
    Good Γ nm T n ⟨fun k e => match asCmp1 e with | some (x, o, y) => decide (o = if neg then CmpOp.NotIn else CmpOp.In) && glName k (nm.kd g) y && ca k x | none => false,
      fun k e => match asCmp1 e with | some (x, o, y) => decide (o = if neg then CmpOp.NotIn else CmpOp.In) && glName k (nm.kd g) y && ca k x | none => false⟩ ⟨dKin neg (Γ.kd g) da, dB (dKin neg (Γ.kd g) da)⟩ := by
  have key : ∀ X E k e, Fx Γ nm T n X E → Cor k X → (match asCmp1 e with | some (x, o, y) => decide (o = if neg then CmpOp.NotIn else CmpOp.In) && glName k (nm.kd g) y && ca k x | none => false) = true →
      PE X e (cE T E (dKin neg (Γ.kd g) da)) ∧ PT X e (cT T E (dB (dKin neg (Γ.kd g) da))) := fun X E k e f r h => by
    split at h
    · rename_i x o y hb
      obtain ⟨p, rfl⟩ := asCmp1_of hb
      simp only [Bool.and_eq_true, decide_eq_true_eq] at h
      obtain ⟨⟨rfl, hc⟩, h1⟩ := h
      obtain ⟨z, q, h2, rfl, hg, hn⟩ := glName_of r hc
      have a := ga X E k x f r h1
      cases neg with
      | false => exact ⟨ae_kin (f.kd g z h2) hg hn a, at_kin (f.kd g z h2) hg hn a⟩
      | true => exact ⟨ae_knotin (f.kd g z h2) hg hn a, at_knotin (f.kd g z h2) hg hn a⟩
    · cases h
  exact ⟨fun X E k e f r h => (key X E k e f r h).1, fun X E k e f r h => (key X E k e f r h).2⟩
theorem g_kget {g : Nat} {ca : Ck → Expr → Bool} {da : DE} (ga : GoodE Γ nm T n ca da) :
    GoodE Γ nm T n (fun k e => match asCall e with
    | some (f, [x], p) => (match asAttr f with
      | some (ov, y, ap) => decide (y = "get") && glName k (nm.kd g) ov && (ap.endLine == p.line) && noStar x && ca k x
      | none => false)
    | _ => false) (dKget (Γ.kd g) da) := fun X E k e f r h => by
  simp only at h
  split at h
  · rename_i gg x p hx
    have hx := asCall_of hx
    subst hx
    split at h
    · rename_i ov y ap hy
      have hy := asAttr_of hy
      subst hy
      simp only [Bool.and_eq_true, decide_eq_true_eq] at h
      obtain ⟨⟨⟨⟨rfl, h1⟩, h2⟩, h3⟩, h4⟩ := h
      obtain ⟨z, q, h5, rfl, hg, hn⟩ := glName_of r h1
      exact ae_kget (f.kd g z h5) hg hn (ga X E k x f r h4) h3 h2
    · cases h
  · cases h
theorem g_frz {ca : Ck → Expr → Bool} {da : DE} (ga : GoodE Γ nm T n ca da) : GoodE Γ nm T n ca (dFrz da) := fun X E k e f r h => PE.imp (ga X E k e f r h) fun σ H Q q => by
  obtain ⟨F, σw, M, Qw, Ew, rs, S, t, kq, kx⟩ := q
  refine ⟨F, σw, M, _, Ew, rs, S, t, fun w M1 v H1 F1 e1 r1 S1 q => ?_, kx⟩
  cases w with
  | ref a =>
    obtain ⟨o, h1, hl, q⟩ := q
    obtain ⟨e2, S2⟩ := S1.freeze h1 hl
    obtain ⟨_, ho, h2, h3⟩ := S1.ob a o h1
    rw [RW.ref_.mp r1]
    refine kq _ _ _ _ _ (e1.trans e2) ?_ S2 q
    cases o with
    | lst ws =>
      obtain ⟨vs, rfl, h4⟩ := h3
      exact RW.lst_.mpr ⟨a, vs, rfl, .inr rfl, h2, h4.ext e2⟩
    | dk kvs =>
      obtain ⟨us, rfl, h4⟩ := h3
      exact RW.dk_.mpr ⟨a, us, rfl, .inr rfl, h2, RK.names' h4, RK.vals' (RK.ext e2 h4)⟩
    | dt kvs =>
      obtain ⟨us, rfl, h4⟩ := h3
      exact RW.dt_.mpr ⟨a, us, rfl, .inr rfl, h2, RK.names' h4, RK.vals' (RK.ext e2 h4)⟩
    | lk kvs => cases hl
    | lkt kvs => cases hl
    | ins c fs =>
      obtain ⟨dx, us, rfl, h4⟩ := h3
      exact RW.obj_.mpr ⟨a, dx, us, rfl, .inr rfl, h2, h4.names, (h4.ext e2).vals⟩
  | _ => exact q.elim
theorem g_rev {own : Bool} {ca : Ck → Expr → Bool} {da : DE} (ga : GoodE Γ nm T n ca da) : GoodE Γ nm T n (fun k e => match asSub e with | some (x, y) => isRev y && ca k x | none => false) (dRev own da) := fun X E k e f r h => by
  simp only at h
  split at h
  · rename_i x y hx
    obtain ⟨p, rfl⟩ := asSub_of hx
    rw [Bool.and_eq_true] at h
    obtain ⟨_, _, _, _, rfl⟩ := isRev_of h.1
    exact ae_rev f.K (ga X E k x f r h.2)
  · cases h
theorem g_lrg {own : Bool} {ca : Ck → Expr → Bool} {da : DE} (ga : GoodE Γ nm T n ca da) :
    GoodE Γ nm T n (fun k e => match asCC e with | some (g, g2, x) => !k.hot && freeName nm k "list" g && freeName nm k "range" g2 && noStar x && ca k x | none => false) (dLrg own da) := fun X E k e f r h => by
  simp only at h
  split at h
  · rename_i g g2 x hx
    obtain ⟨p, p2, rfl⟩ := asCC_of hx
    simp only [Bool.and_eq_true] at h
    obtain ⟨⟨⟨⟨h0, h1⟩, h2⟩, h3⟩, h4⟩ := h
    obtain ⟨q, rfl, hg, hm⟩ := freeName_of f r h1
    obtain ⟨q2, rfl, hg2, hm2⟩ := freeName_of f r h2
    exact ae_lrg (r.cold h0) hg hm hg2 hm2 (ga X E k x f r h4) h3
  · cases h
theorem g_sset {own : Bool} {ca : Ck → Expr → Bool} {da : DE} (ga : GoodE Γ nm T n ca da) :
    GoodE Γ nm T n (fun k e => match asCC e with | some (g, g2, x) => !k.hot && freeName nm k "sorted" g && freeName nm k "set" g2 && noStar x && ca k x | none => false) (dSset own da) := fun X E k e f r h => by
  simp only at h
  split at h
  · rename_i g g2 x hx
    obtain ⟨p, p2, rfl⟩ := asCC_of hx
    simp only [Bool.and_eq_true] at h
    obtain ⟨⟨⟨⟨h0, h1⟩, h2⟩, h3⟩, h4⟩ := h
    obtain ⟨q, rfl, hg, hm⟩ := freeName_of f r h1
    obtain ⟨q2, rfl, hg2, hm2⟩ := freeName_of f r h2
    exact ae_sset f.K (r.cold h0) hg hm hg2 hm2 (ga X E k x f r h4) h3
  · cases h
theorem freeStr_of (f : Fx Γ nm T n X E) (r : Cor k X) {x : Str} (h : freeStr nm k x = true) : Gl X x ∧ X.mg x = none := by
  unfold freeStr at h
  rw [Bool.and_eq_true] at h
  exact ⟨gl_of r h.1, f.free _ h.2⟩
theorem opCx_of (f : Fx Γ nm T n X E) (hc : X.calm = true) : OpCx T X := ⟨f.K, hc, units_of f⟩
theorem g_dfz {ca : Ck → Expr → Bool} {da : DE} (ga : GoodE Γ nm T n ca da) : GoodE Γ nm T n ca (dDfz da) := fun X E k e f r h => ae_dfz (ga X E k e f r h)
theorem g_lock {ca : Ck → Expr → Bool} {da : DE} (ga : GoodE Γ nm T n ca da) : GoodE Γ nm T n ca (dLock da) := fun X E k e f r h => ae_lock (ga X E k e f r h)
theorem g_op1 {o : Op1} {own : Bool} {ca : Ck → Expr → Bool} {da : DE} (ga : GoodE Γ nm T n ca da) :
    GoodE Γ nm T n (fun k e => match o.pat e with | some (fr, x) => !k.hot && fr.all (freeStr nm k) && noStar x && ca k x | none => false) (d1 (o.w own) da) := fun X E k e f r h => by
  simp only at h
  split at h
  · rename_i fr x hx
    simp only [Bool.and_eq_true, List.all_eq_true] at h
    exact op1_ok o (opCx_of f (r.cold h.1.1.1)) hx (fun x hx => freeStr_of f r (h.1.1.2 x hx)) (ga X E k x f r h.2) h.1.2
  · cases h
theorem g_op2 {o : Op2} {own : Bool} {ca cb : Ck → Expr → Bool} {da db : DE} (ga : GoodE Γ nm T n ca da) (gb : GoodE Γ nm T n cb db) :
    GoodE Γ nm T n (fun k e => match o.pat e with | some (fr, x, y) => !k.hot && fr.all (freeStr nm k) && noStar x && noStar y && ca k x && cb k y | none => false) (d2 (o.w own) da db) := fun X E k e f r h => by
  simp only at h
  split at h
  · rename_i fr x y hx
    simp only [Bool.and_eq_true, List.all_eq_true] at h
    exact op2_ok o (opCx_of f (r.cold h.1.1.1.1.1)) hx (fun x hx => freeStr_of f r (h.1.1.1.1.2 x hx)) (ga X E k x f r h.1.2) (gb X E k y f r h.2) h.1.1.1.2 h.1.1.2
  · cases h
theorem var_of {X : Cx} {k : Ck} (r : Cor k X) {i : Nat} {e : Expr} (h : (match asName e with | some z => decide (k.N[i]? = some z) && visB k.sc z && okName z | none => false) = true) : ∃ z p, e = .Name z p ∧ X.N[i]? = some z ∧ Vis X.env.scope z ∧ okName z = true := by
  split at h
  · rename_i z hz
    obtain ⟨p, rfl⟩ := asName_of hz
    simp only [Bool.and_eq_true, decide_eq_true_eq] at h
    exact ⟨z, p, rfl, by rw [r.N]; exact h.1.1, r.vis h.1.2, h.2⟩
  · cases h
theorem g_isx {i : Nat} {c : Option Nat} : GoodE Γ nm T n (fun k e => match asCall e with
    | some (g, [x, y], _) => freeName nm k "isinstance" g && noStar y && (match asName x with | some z => decide (k.N[i]? = some z) && visB k.sc z && okName z | none => false) &&
      (match c with | some c => glName k (nm.xc c) y | none => freeName nm k "ValueError" y)
    | _ => false) (dIsx Γ.xn (Γ.isx c) i) := fun X E k e f r h => by
  simp only at h
  split at h
  · rename_i gg x y p hx
    have hx := asCall_of hx
    subst hx
    rw [Bool.and_eq_true, Bool.and_eq_true, Bool.and_eq_true] at h
    obtain ⟨⟨⟨h1, h2⟩, h3⟩, h4⟩ := h
    obtain ⟨q, rfl, hg, hm⟩ := freeName_of f r h1
    obtain ⟨z, q2, rfl, hN, hv, hn⟩ := var_of r h3
    cases c with
    | some c =>
      obtain ⟨u, q3, h5, rfl, hg3, hn3⟩ := glName_of r h4
      exact ae_isx (cv := .ref (T.xcl c)) (v := .ref (T.xcl c)) f.xn (fun k b hb => f.isx _ k b hb) hg hm hN hv hn (pe_glob hg3 (f.xg c u h5) rfl (okName_of hn3).1) (fun u hu => hu) h2
    | none =>
      obtain ⟨q3, rfl, hg3, hm3⟩ := freeName_of f r h4
      exact ae_isx (cv := .type "ValueError") (v := .ty "ValueError") f.xn (fun k b hb => f.isx _ k b hb) hg hm hN hv hn (pe_bltn hg3 hm3 PyProof.Rows.Boot.«ValueError» rfl (by decide) (by decide)) (fun u hu => hu) h2
  · cases h
theorem g_xfl {i : Nat} {fl : Str} : GoodE Γ nm T n (fun k e => match asAttr e with
    | some (ov, x, _) => decide (x = fl) && (match asName ov with | some z => decide (k.N[i]? = some z) && visB k.sc z && okName z | none => false)
    | none => false) (dXfl Γ.xn Γ.xf i fl) := fun X E k e f r h => by
  simp only at h
  split at h
  · rename_i ov x ap hy
    have hy := asAttr_of hy
    subst hy
    rw [Bool.and_eq_true] at h
    obtain ⟨z, q2, rfl, hN, hv, hn⟩ := var_of r h.2
    have hf := of_decide_eq_true h.1
    subst hf
    exact ae_xfl f.xn f.xf hN hv hn
  · cases h
theorem g_isc {c : Nat} {ca : Ck → Expr → Bool} {da : DE} (ga : GoodE Γ nm T n ca da) : GoodE Γ nm T n (fun k e => match asCall e with
    | some (g, [x, y], _) => freeName nm k "isinstance" g && glName k (nm.cl c) y && nm.ic c && noStar x && ca k x
    | _ => false) (dIsc (Γ.isc c) da) := fun X E k e f r h => by
  simp only at h
  split at h
  · rename_i gg x y p hx
    have hx := asCall_of hx
    subst hx
    simp only [Bool.and_eq_true] at h
    obtain ⟨⟨⟨⟨h1, h2⟩, h3⟩, h4⟩, h5⟩ := h
    obtain ⟨q, rfl, hg, hm⟩ := freeName_of f r h1
    obtain ⟨u, q3, h6, rfl, hg3, hn3⟩ := glName_of r h2
    exact ae_isc f.K hg hm hg3 (f.cg c u h6) hn3 (f.ic c h3) (f.isc c) (ga X E k x f r h5) h4
  · cases h
theorem fx_low {X : Cx} {E E' : XK} {A : Around} {outer : List Env} {s : Shared} {H : Hp} {scope : Scope} {fa c' : Addr} (f : Fx Γ nm T n X E) (hc : X.calm = true) (lo : Lo Γ nm T n X) (hk : scope.kind = .function) (hr : Room (n - 2 + 1) (A.deeper (LamX.lamEnv X scope s.heap.objs.size fa c'))) (tk : Passes (L2.CX X.prog X.w) (LamX.lamCx X A outer s H E' scope fa c') E') :
    Fx Γ.low nm T (n - 2) (LamX.lamCx X A outer s H E' scope fa c') E' where
  K := f.K
  nd := f.nd
  units := by have := hr.un; show (A.deeper (LamX.lamEnv X scope s.heap.objs.size fa c')).units + 65 < cLine; omega
  room := fun _ => hr
  xd := fun _ => f.xd hc
  kind := hk
  fn := fun _ => lo.fn
  cl := fun _ => lo.cl
  cg := f.cg
  me := fun _ => lo.me
  meN := f.meN
  gl := f.gl
  kd := f.kd
  flds := ⟨f.flds.cl, f.flds.no⟩
  free := f.free
  ps := tk
  xg := f.xg
  xr := fun c h => ⟨(f.xr c h).ex, (f.xr c h).kp, (f.xr c h).ra, (f.xr c h).ty⟩
  isx := f.isx
  sub := f.sub
  xf := f.xf
  isc := fun c k b h => ⟨⟨(f.isc c k b h).1.cl, (f.isc c k b h).1.ha, (f.isc c k b h).1.hn, (f.isc c k b h).1.ht, (f.isc c k b h).1.hm⟩, (f.isc c k b h).2⟩
  ic := f.ic
  xn := fun _ _ h => nomatch h
  lo := fun _ h => nomatch h
theorem g_kind {ca : Ck → Expr → Bool} {da : DE} (ga : GoodE Γ.low nm T (n - 2) ca da) : GoodE Γ nm T n (fun k e => match asCall e with
    | some (g, [l], _) => (match asLam l with
      | some (b, sc) => !k.hot && glName k nm.kn g && LamX.lamSB k.sc sc && ca (k.lam sc) b
      | none => false)
    | _ => false) (fun σ M Q Ex => Γ.two = true ∧ dKind Γ.kind da σ M Q Ex) := fun X E k e f r h => by
  simp only at h
  split at h
  · rename_i gg l p hx
    have hx := asCall_of hx
    subst hx
    split at h
    · rename_i b sc hl
      obtain ⟨lp, rfl⟩ := asLam_of hl
      simp only [Bool.and_eq_true] at h
      obtain ⟨⟨⟨h1, h2⟩, h3⟩, h4⟩ := h
      have hc := r.cold h1
      obtain ⟨x, q, h5, rfl, hg, hn⟩ := glName_of r h2
      cases ht : Γ.two with
      | false => exact ⟨fun _ _ _ _ _ _ h => by
          obtain ⟨_, _, _, _, _, _, _, ⟨z, _⟩, _⟩ := h
          cases z⟩
      | true =>
        have lo := f.lo hc ht
        have n2 := lo.n2
        obtain ⟨TT, K⟩ := lo.ki x h5 X rfl rfl rfl rfl rfl (by have := (f.room hc).un; omega)
        have L : LamX.LamS X.env.scope sc := by rw [r.sc]; exact LamX.lamS_by h3
        have hr : Room (n - 2 + 1 + 2) X.A := by
          have := f.room hc
          rw [show n - 2 + 1 + 2 = n + 1 by omega]
          exact this
        refine PE.imp (ae_kind (E := E) (τ := da) K hg hn lo.lm hr L rfl (fun _ _ _ _ _ => rfl) fun A outer s H E' fa c' hr' => ?_) fun σ H Q q => ?_
        · have tk : Passes (L2.CX X.prog X.w) (LamX.lamCx X A outer s H E' sc fa c') E' := passes_call (takes_of (E := E') rfl rfl rfl rfl) fun _ _ _ _ h => h
          exact ga _ E' (k.lam sc) b (fx_low f hc lo L.kind hr' tk) ⟨r.N, rfl, fun _ h => (nomatch h), fun _ => rfl⟩ h4
        · obtain ⟨F, σw, M, Qw, Ew, rs, S, ⟨_, t⟩, kq, kx⟩ := q
          exact ⟨F, σw, M, Qw, Ew, rs, S, t, kq, kx⟩
    · cases h
  · cases h
theorem pe_bool1 {X : Cx} {op : BoolOp} {a : Expr} {pos : Pos} {t : TE} (h : PE X a t) : PE X (.BoolOp op [a] pos) t := ⟨h.run⟩
theorem g_nil : GoodS Γ nm T n (fun _ l => match l with | [] => true | _ => false) (fun _ l => match l with | [] => true | _ => false) ⟨dNil, fun _ _ _ _ _ => False, fun _ _ _ _ _ => False, 0⟩ where
  a X E k l f r h := by cases l with
    | nil => exact ⟨aa_nil, rfl, rfl⟩
    | cons _ _ => cases h
  nt k l h := by cases l with
    | nil => rfl
    | cons _ _ => cases h
  nil _ := rfl
  va X E k l p f r h h0 := by cases l with
    | nil => exact absurd rfl h0
    | cons _ _ => cases h
  vo X E k l p f r h h0 := by cases l with
    | nil => exact absurd rfl h0
    | cons _ _ => cases h
  ta X E k l p f r h h0 := by cases l with
    | nil => exact absurd rfl h0
    | cons _ _ => cases h
  to X E k l p f r h h0 := by cases l with
    | nil => exact absurd rfl h0
    | cons _ _ => cases h
theorem g_cons {c : Ch} {d : DX} {cs ct : Ck → List Expr → Bool} {ds : DXs} (g : Good Γ nm T n c d) (gs : GoodS Γ nm T n cs ct ds) :
    GoodS Γ nm T n (fun k l => match l with | x :: xs => noStar x && c.e k x && cs k xs | [] => false) (fun k l => match l with | x :: xs => c.t k x && ct k xs | [] => false)
      ⟨dCons d.e ds.a, fun isAnd => if ds.n = 0 then d.e else dJoinV isAnd d.e (ds.v isAnd), fun isAnd => if ds.n = 0 then d.t else dJoinT isAnd d.t (ds.t isAnd), ds.n + 1⟩ where
  a X E k l f r h := by
    cases l with
    | nil => cases h
    | cons x xs =>
      simp only [Bool.and_eq_true] at h
      have A := gs.a X E k xs f r h.2
      exact ⟨aa_cons (g.e X E k x f r h.1.2) A.1 h.1.1, by rw [List.all_cons, h.1.1, A.2.1]; rfl, by rw [List.length_cons, A.2.2]⟩
  nt k l h := by
    cases l with
    | nil => cases h
    | cons x xs =>
      simp only [Bool.and_eq_true] at h
      rw [List.length_cons, gs.nt k xs h.2]
  nil h := nomatch h
  va X E k l p f r h h0 := by
    cases l with
    | nil => cases h
    | cons x xs =>
      simp only [Bool.and_eq_true] at h
      have A := gs.a X E k xs f r h.2
      have B := g.e X E k x f r h.1.2
      cases xs with
      | nil =>
        have : ds.n = 0 := A.2.2.symm
        simp only [this, if_true]
        exact pe_bool1 B
      | cons y ys =>
        have : ds.n ≠ 0 := by rw [← A.2.2]; simp
        simp only [this, if_false]
        exact ae_andV B (gs.va X E k (y :: ys) p f r h.2 (by simp))
  vo X E k l p f r h h0 := by
    cases l with
    | nil => cases h
    | cons x xs =>
      simp only [Bool.and_eq_true] at h
      have A := gs.a X E k xs f r h.2
      have B := g.e X E k x f r h.1.2
      cases xs with
      | nil =>
        have : ds.n = 0 := A.2.2.symm
        simp only [this, if_true]
        exact pe_bool1 B
      | cons y ys =>
        have : ds.n ≠ 0 := by rw [← A.2.2]; simp
        simp only [this, if_false]
        exact ae_orV B (gs.vo X E k (y :: ys) p f r h.2 (by simp))
  ta X E k l p f r h h0 := by
    cases l with
    | nil => cases h
    | cons x xs =>
      simp only [Bool.and_eq_true] at h
      have A := gs.nt k xs h.2
      have B := g.t X E k x f r h.1
      cases xs with
      | nil =>
        have : ds.n = 0 := A.symm
        simp only [this, if_true]
        exact pw_and1 B
      | cons y ys =>
        have : ds.n ≠ 0 := by rw [← A]; simp
        simp only [this, if_false]
        exact aw_and B (gs.ta X E k (y :: ys) p f r h.2 (by simp))
  to X E k l p f r h h0 := by
    cases l with
    | nil => cases h
    | cons x xs =>
      simp only [Bool.and_eq_true] at h
      have A := gs.nt k xs h.2
      have B := g.t X E k x f r h.1
      cases xs with
      | nil =>
        have : ds.n = 0 := A.symm
        simp only [this, if_true]
        exact pw_or1 B
      | cons y ys =>
        have : ds.n ≠ 0 := by rw [← A]; simp
        simp only [this, if_false]
        exact aw_or B (gs.to X E k (y :: ys) p f r h.2 (by simp))
theorem putK_new {k : Key} {v : V} : ∀ {kvs : List (Key × V)}, k ∉ kvs.map (·.1) → putK kvs k v = kvs ++ [(k, v)] := fun {kvs} h => by
  unfold putK
  rw [if_neg]
  rw [List.any_eq_true]
  rintro ⟨p, hp, e⟩
  exact h (List.mem_map.mpr ⟨p, hp, of_decide_eq_true e⟩)
theorem mergeK_new : ∀ {more kvs : List (Key × V)}, (more.map (·.1)).Nodup → (∀ k ∈ more.map (·.1), k ∉ kvs.map (·.1)) → mergeK kvs more = kvs ++ more
  | [], kvs, _, _ => by show kvs = _; rw [List.append_nil]
  | (k, v) :: more, kvs, nd, h => by
    rw [List.map_cons, List.nodup_cons] at nd
    show mergeK (putK kvs k v) more = _
    rw [putK_new (h k (by simp)), mergeK_new nd.2, List.append_assoc]
    · rfl
    · intro j hj
      rw [List.map_append, List.mem_append]
      rintro (z | z)
      · exact h j (by simp [hj]) z
      · rw [List.map_cons, List.map_nil, List.mem_singleton] at z
        subst z
        exact nd.1 hj
end WL
namespace WL
open PySem PySem.Spec PyProof.Rows L2
variable {Γ : Gam} {nm : Nm} {T : Tb} {n : Nat}
def zipV : List Key → List V → List (Key × V)
  | k :: ks, w :: ws => (k, w) :: zipV ks ws
  | _, _ => []
theorem zipV_rk {F : Addr → Prop} {H : Hp} : ∀ {ks : List Key} {ws : List W} {vs : List V}, RWs T F H ws vs → RK T F H (zipK ks ws) (zipV ks vs)
  | [], ws, vs, h => by simp [zipK, zipV]; exact rfl
  | k :: ks, [], vs, h => by rw [RWs.nil_.mp h]; exact rfl
  | k :: ks, w :: ws, vs, h => by
    obtain ⟨v, r, rfl, h1, h2⟩ := RWs.cons_.mp h
    exact ⟨v, _, rfl, h1, zipV_rk h2⟩
theorem zipV_sub : ∀ {ks : List Key} {vs : List V}, ((zipV ks vs).map (·.1)).Sublist ks
  | [], vs => by simp [zipV]
  | k :: ks, [] => by simp [zipV]
  | k :: ks, v :: vs => by
    simp only [zipV, List.map_cons]
    exact zipV_sub.cons₂ k
theorem nodup_inr : ∀ {ks : List Str}, ks.Nodup → (ks.map (Sum.inr : Str → Key)).Nodup
  | [], _ => List.nodup_nil
  | k :: ks, h => by
    rw [List.nodup_cons] at h
    rw [List.map_cons, List.nodup_cons]
    refine ⟨fun z => ?_, nodup_inr h.2⟩
    obtain ⟨y, hy, e⟩ := List.mem_map.mp z
    cases e
    exact h.1 hy
structure GoodP (Γ : Gam) (nm : Nm) (T : Tb) (n : Nat) (c : Ck → List Expr → Bool) (d : DA) : Prop where
  p : ∀ X E k ks kl l pos, Fx Γ nm T n X E → Cor k X → keysOf ks kl = true → c k l = true → kl.length = l.length → ∃ trs, PPs X pos kl l trs ∧
    ∀ σ H Q, cA T E d σ H (fun vs H' => Q ((zipV (ks.map Sum.inr) vs).map fun kv => (kV kv.1, kv.2)) H') → tPairs trs σ H Q
theorem keys_some : ∀ {ks : List Str} {kl : List (Option Expr)}, keysOf ks kl = true → kl.all (·.isSome) = true ∧ kl.length = ks.length
  | [], [], _ => ⟨rfl, rfl⟩
  | [], _ :: _, h => nomatch h
  | _ :: _, [], h => nomatch h
  | _ :: _, none :: _, h => nomatch h
  | k :: ks, some e :: es, h => by
    unfold keysOf at h
    rw [Bool.and_eq_true] at h
    have := keys_some h.2
    exact ⟨by rw [List.all_cons, this.1]; rfl, by rw [List.length_cons, List.length_cons, this.2]⟩
theorem gp_nil : GoodP Γ nm T n (fun _ l => match l with | [] => true | _ => false) dNil := ⟨fun X E k ks kl l pos f r hk h hl => by
  cases l with
  | cons _ _ => cases h
  | nil =>
    cases kl with
    | cons _ _ => cases hl
    | nil =>
      cases ks with
      | cons _ _ => cases hk
      | nil =>
        refine ⟨[], pps_nil, fun σ H Q q => ?_⟩
        obtain ⟨F, σw, M, Qw, Ew, rs, S, t, kq, kx⟩ := q
        exact kq [] M [] H F .refl .nil S t⟩
theorem gp_cons {c : Ch} {d : DX} {cs : Ck → List Expr → Bool} {ds : DA} (g : Good Γ nm T n c d) (gs : GoodP Γ nm T n cs ds) :
    GoodP Γ nm T n (fun k l => match l with | x :: xs => noStar x && c.e k x && cs k xs | [] => false) (dCons d.e ds) := ⟨fun X E k ks kl l pos f r hk h hl => by
  cases l with
  | nil => cases h
  | cons x xs =>
    simp only [Bool.and_eq_true] at h
    cases ks with
    | nil => cases kl with
      | nil => cases hl
      | cons _ _ => cases hk
    | cons key ks =>
      cases kl with
      | nil => cases hk
      | cons ke kl =>
        cases ke with
        | none => cases hk
        | some ke =>
          unfold keysOf at hk
          simp only [Bool.and_eq_true] at hk
          obtain ⟨hk1, hk2⟩ := hk
          split at hk1
          · rename_i y hy
            obtain ⟨j, p, rfl⟩ := asConst_of hy
            have hk1 := of_decide_eq_true hk1
            subst hk1
            obtain ⟨trs, h1, h2⟩ := gs.p X E k ks kl xs pos f r hk2 h.2 (by simpa using hl)
            refine ⟨_, pps_cons pe_str (g.e X E k x f r h.1.2) h1, fun σ H Q q => ?_⟩
            obtain ⟨F, σw, M, Qw, Ew, rs, S, t, kq, kx⟩ := q
            refine ⟨F, σw, M, _, Ew, rs, S, t, fun x M1 v H1 F1 e1 r1 S1 t1 => ?_, kx⟩
            refine h2 σ H1 _ ⟨F1, σw, M1, _, Ew, rs.ext e1, S1, t1, fun xs M2 vs H2 F2 e2 r2 S2 q => ?_, kx.ext e1⟩
            exact kq _ _ (v :: vs) _ _ (e1.trans e2) (.cons (r1.ext e2) r2) S2 q
          · cases hk1⟩
theorem g_disp {own : Bool} {ks : List Str} {cs ct : Ck → List Expr → Bool} {d : DXs} (g : GoodP Γ nm T n cs d.a) :
    GoodE Γ nm T n (fun k e => match asDict e with | some (kl, vl) => keysOf ks kl && decide (ks.Nodup) && !ks.isEmpty && decide (ks.length ≤ 15) && decide (kl.length = vl.length) && cs k vl | none => false) (dDisp own ks d.a) := fun X E k e f r h => by
  simp only at h
  split at h
  · rename_i kl vl hx
    obtain ⟨p, rfl⟩ := asDict_of hx
    simp only [Bool.and_eq_true, decide_eq_true_eq, Bool.not_eq_true'] at h
    obtain ⟨⟨⟨⟨⟨h1, h2⟩, h3⟩, h4⟩, h5⟩, h6⟩ := h
    obtain ⟨trs, h7, h8⟩ := g.p X E k ks kl vl p f r h1 h6 h5
    have ⟨a1, a2⟩ := keys_some h1
    have h0 : kl ≠ [] := fun z => by
      rw [z] at a2
      cases ks with
      | nil => cases h3
      | cons _ _ => cases a2
    refine PE.imp (pe_disp h7 a1 h5 h0 (by rw [a2]; exact h4)) fun σ H Q q => ?_
    obtain ⟨F, σw, M, Qw, Ew, rs, S, t, kq, kx⟩ := q
    intro p hp
    obtain ⟨e, S'⟩ := S.newM (o := .dK []) (u := .dk []) hp ⟨[], rfl, rfl⟩
    refine h8 σ _ _ ⟨F, σw, _, _, Ew, rs.ext e, S', t p (S.fresh hp).1, fun ws M2 vs H2 F2 e2 r2 S2 ⟨q1, q2⟩ => ?_, kx.ext e⟩
    obtain ⟨us, hu, ru⟩ := RK.of_ob S2 q1
    have hus : us = [] := ru
    subst hus
    have rk := zipV_rk (ks := ks.map Sum.inr) r2
    have ndk : (ks.map (Sum.inr : Str → Key)).Nodup := nodup_inr h2
    have nd : ((zipV (ks.map Sum.inr) vs).map (·.1)).Nodup := zipV_sub.nodup ndk
    refine ⟨hu, zipV (ks.map Sum.inr) vs, rfl, ?_, ?_⟩
    · have := zipV_sub (ks := ks.map Sum.inr) (vs := vs).length_le
      simp at this
      omega
    · rw [mergeK_new nd (by simp), List.nil_append]
      obtain ⟨e3, S3⟩ := S2.put (o := .dK (zipV (ks.map Sum.inr) vs)) (u := .dk (zipK (ks.map Sum.inr) ws)) q1 ⟨_, rfl, rk⟩
      have ee := (e.trans e2).trans e3
      cases own with
      | true => exact kq _ _ _ _ _ ee (RW.ref_.mpr rfl) S3 q2
      | false =>
        obtain ⟨e4, S4⟩ := S3.freeze (a := p) (u := .dk (zipK (ks.map Sum.inr) ws)) (by unfold mup; rw [if_pos rfl]) rfl
        have hm : mdel (mup M2 p (.dk (zipK (ks.map Sum.inr) ws))) p = mdel M2 p := by
          funext b
          unfold mdel mup
          by_cases hb : b = p
          · simp [hb]
          · simp [hb]
        rw [hm] at S4
        refine kq _ _ _ _ _ (ee.trans e4) (RW.dk_.mpr ⟨p, _, rfl, .inr rfl, upd_same, RK.names' rk, ?_⟩) S4 q2
        exact RK.vals' (RK.ext (e3.trans e4) rk)
  · cases h
theorem g_name {X : Cx} {E : XK} {k : Ck} {i : Nat} {e : Expr} (f : Fx Γ nm T n X E) (r : Cor k X) (h : (match asName e with
    | some x => decide (k.N[i]? = some x) && locB k.sc x && (k.fno x || decide (k.sc.names.lookup x = some .local))
    | none => false) = true) : ∃ x p, e = .Name x p ∧ X.N[i]? = some x ∧ Loc X.env.scope x ∧ (X.fn x = true ∨ X.env.scope.names.lookup x = some .local) := by
  split at h
  · rename_i x hx
    obtain ⟨p, rfl⟩ := asName_of hx
    simp only [Bool.and_eq_true, Bool.or_eq_true, decide_eq_true_eq] at h
    refine ⟨x, p, rfl, by rw [r.N]; exact h.1.1, r.loc h.1.2, ?_⟩
    rcases h.2 with z | z
    · exact .inl (r.fno x z)
    · exact .inr (by rw [r.sc]; exact z)
  · cases h
theorem g_names {X : Cx} {E : XK} {k : Ck} (f : Fx Γ nm T n X E) (r : Cor k X) : ∀ {is : List Nat} {es : List Expr}, chkTg.chkNames k is es = true → Paired (fun (e : Expr) (i : Nat) => PG X e (gName i)) es is
  | [], [], _ => .nil
  | [], _ :: _, h => nomatch h
  | _ :: _, [], h => nomatch h
  | i :: is, e :: es, h => by
    unfold chkTg.chkNames at h
    rw [Bool.and_eq_true] at h
    obtain ⟨x, p, rfl, h1, h2, h3⟩ := g_name f r h.1
    exact .cons (pg_name f.nd h1 h2 h3) (g_names f r h.2)
theorem g_tg {X : Cx} {E : XK} {k : Ck} (f : Fx Γ nm T n X E) (r : Cor k X) {tg : Tg} {e : Expr} (h : chkTg k tg e = true) : PG X e (cG T tg) := by
  cases tg with
  | name i =>
    obtain ⟨x, p, rfl, h1, h2, h3⟩ := g_name f r h
    exact ag_name f.nd h1 h2 h3
  | tup is =>
    unfold chkTg at h
    simp only at h
    split at h
    · rename_i l hl
      obtain ⟨j, p, rfl⟩ := asTuple_of hl
      rw [Bool.and_eq_true, Bool.and_eq_true] at h
      exact ag_tup f.K (r.cold h.1.1) h.1.2 (g_names f r h.2)
    · cases h
theorem go_none : GoodQ Γ nm T n (fun _ l => match l with | none => true | _ => false) none (dNoPart, dYes) := ⟨fun X E k l f r h => (by
  cases l with
  | none => exact ao_none
  | some _ => cases h), .inl ⟨rfl, rfl⟩⟩
theorem go_some {c : Ch} {d : DX} (g : Good Γ nm T n c d) : GoodQ Γ nm T n (fun k l => match l with | some x => c.e k x | _ => false) (some c.t) (dPart d.e, d.t) := ⟨fun X E k l f r h => (by
  cases l with
  | none => cases h
  | some x => exact ao_some (g.e X E k x f r h)), .inr ⟨c.t, rfl, g.t⟩⟩
theorem gi_rg1 {ca : Ck → Expr → Bool} {da : DE} (ga : GoodE Γ nm T n ca da) :
    GoodI Γ nm T n (fun k _ x => (match asCall x with | some (g, [y], _) => freeName nm k "range" g && noStar y && ca k y | _ => false)) (iRg1 da) := fun X E k t e f r h => by
  simp only at h
  split at h
  · rename_i gg y p hx
    have hx := asCall_of hx
    subst hx
    simp only [Bool.and_eq_true] at h
    obtain ⟨q, rfl, hg, hm⟩ := freeName_of f r h.1.1
    exact ai_rg1 hg hm (ga X E k y f r h.2) h.1.2
  · cases h
theorem gi_rg2 {ca cb : Ck → Expr → Bool} {da db : DE} (ga : GoodE Γ nm T n ca da) (gb : GoodE Γ nm T n cb db) :
    GoodI Γ nm T n (fun k _ x => (match asCall x with | some (g, [y, z], _) => freeName nm k "range" g && noStar y && noStar z && ca k y && cb k z | _ => false)) (iRg2 da db) := fun X E k t e f r h => by
  simp only at h
  split at h
  · rename_i gg y z p hx
    have hx := asCall_of hx
    subst hx
    simp only [Bool.and_eq_true] at h
    obtain ⟨⟨⟨⟨h1, h2⟩, h3⟩, h4⟩, h5⟩ := h
    obtain ⟨q, rfl, hg, hm⟩ := freeName_of f r h1
    exact ai_rg2 hg hm (ga X E k y f r h4) (gb X E k z f r h5) h2 h3
  · cases h
theorem isTup_of {e : Expr} (h : isTupE e = true) : ∃ l j p, e = .Tuple l j p := by
  cases e <;> first | exact ⟨_, _, _, rfl⟩ | cases h
theorem gi_zip {ca cb : Ck → Expr → Bool} {da db : DE} (ga : GoodE Γ nm T n ca da) (gb : GoodE Γ nm T n cb db) :
    GoodI Γ nm T n (fun k t x => isTupE t && (match asCall x with | some (g, [y, z], _) => freeName nm k "zip" g && noStar y && noStar z && ca k y && cb k z | _ => false)) (iZip da db) := fun X E k t e f r h => by
  simp only [Bool.and_eq_true] at h
  obtain ⟨ht, h⟩ := h
  obtain ⟨l, j, p', rfl⟩ := isTup_of ht
  split at h
  · rename_i gg y z p hx
    have hx := asCall_of hx
    subst hx
    simp only [Bool.and_eq_true] at h
    obtain ⟨⟨⟨⟨h1, h2⟩, h3⟩, h4⟩, h5⟩ := h
    obtain ⟨q, rfl, hg, hm⟩ := freeName_of f r h1
    exact ai_zip f.K hg hm (ga X E k y f r h4) (gb X E k z f r h5) h2 h3
  · cases h
theorem gi_enum {ca : Ck → Expr → Bool} {da : DE} (ga : GoodE Γ nm T n ca da) :
    GoodI Γ nm T n (fun k t x => isTupE t && (match asCall x with | some (g, [y], _) => freeName nm k "enumerate" g && noStar y && ca k y | _ => false)) (iEnumD da) := fun X E k t e f r h => by
  simp only [Bool.and_eq_true] at h
  obtain ⟨ht, h⟩ := h
  obtain ⟨l, j, p', rfl⟩ := isTup_of ht
  split at h
  · rename_i gg y p hx
    have hx := asCall_of hx
    subst hx
    simp only [Bool.and_eq_true] at h
    obtain ⟨q, rfl, hg, hm⟩ := freeName_of f r h.1.1
    exact ai_enum f.K hg hm (ga X E k y f r h.2) h.1.2
  · cases h
structure LcF (T : Tb) (X : Cx) (E : XK) (elt t it : Expr) (ifs : List Expr) (scope : Scope) (tg : Tg) (vs : List (Str × Nat)) (dI : DI) (dT : DT) (dE : DE) : Prop where
  calm : X.calm = true
  ok : BlkOk X.N X.env.scope scope vs
  src : PI X t it (cI T E dI)
  tgt : ∀ (s : Shared) (H : Hp) (C : Addr) (cl : List (Str × Addr)) (fp : List Addr), PG (X.blk s H scope (compEnvC scope cl C X.env) fp) t (cG T tg)
  ifs : ∀ (s : Shared) (H : Hp) (C : Addr) (cl : List (Str × Addr)) (fp : List Addr), PTs (X.blk s H scope (compEnvC scope cl C X.env) fp) ifs (cT T E0w dT)
  elt : ∀ (s : Shared) (H : Hp) (C : Addr) (cl : List (Str × Addr)) (fp : List Addr), PE (X.blk s H scope (compEnvC scope cl C X.env) fp) elt (cE T E0w dE)
  set : noSet it = true
  sl : ∀ i ∈ tg.slots, i ∈ vs.map (·.2)
theorem g_lcF {X : Cx} {E : XK} {k : Ck} (f : Fx Γ nm T n X E) (r : Cor k X) {tg : Tg} {el t it : Expr} {ifs : List Expr} {scope : Scope} {vs : List (Str × Nat)} {ci : Ck → Expr → Expr → Bool} {di : DI} {ce : Ck → Expr → Bool} {de : DE} {cc : Option (Ck → Expr → Bool)} {dt : DT}
    (gi : GoodI Γ nm T n ci di) (gc : (cc = none ∧ dt = dYes) ∨ ∃ c, cc = some c ∧ GoodT Γ nm T n c dt) (ge : GoodE Γ nm T n ce de)
    (h : lcB k tg vs ci cc ce el t it ifs scope = true) : LcF T X E el t it ifs scope tg vs di dt de := by
  unfold lcB at h
  simp only [Bool.and_eq_true] at h
  obtain ⟨⟨⟨⟨⟨⟨⟨h0, h1⟩, h2⟩, h3⟩, h4⟩, h5⟩, h6⟩, h7⟩ := h
  have hc := r.cold h0
  have ok : BlkOk X.N X.env.scope scope vs := by rw [r.N, r.sc]; exact blkOk_by h1
  have fb := fun s H C cl fp => f.blk (scope := scope) hc ok.kind s H C cl fp
  have rb := fun s H C cl fp => r.blk (scope := scope) s H C cl fp
  refine ⟨hc, ok, gi X E k t it f r h3, fun s H C cl fp => g_tg (fb s H C cl fp) (rb s H C cl fp) h2, fun s H C cl fp => ?_, fun s H C cl fp => ge _ _ _ el (fb s H C cl fp) (rb s H C cl fp) h6, h4, fun i hi => ?_⟩
  · unfold ifsB at h5
    rcases gc with ⟨rfl, rfl⟩ | ⟨c, rfl, gc⟩
    · cases ifs with
      | nil => exact at_nil
      | cons _ _ => cases h5
    · cases ifs with
      | nil => cases h5
      | cons x xs => cases xs with
        | nil => exact at_one (gc _ _ _ x (fb s H C cl fp) (rb s H C cl fp) h5)
        | cons _ _ => cases h5
  · exact List.contains_iff_mem.mp (List.all_eq_true.mp h7 i hi)
theorem g_lc {own : Bool} {tg : Tg} {vs : List (Str × Nat)} {ci : Ck → Expr → Expr → Bool} {di : DI} {ce : Ck → Expr → Bool} {de : DE} {co : Ck → Option Expr → Bool} {cc : Option (Ck → Expr → Bool)} {dd : DO × DT}
    (gi : GoodI Γ nm T n ci di) (gc : GoodQ Γ nm T n co cc dd) (ge : GoodE Γ nm T n ce de) :
    GoodE Γ nm T n (fun k e => match asLC e with
    | some (el, t, it, ifs, scope, _) => lcB k tg vs ci cc ce el t it ifs scope
    | none => false) (dLc own di tg dd.2 de (vs.map (·.2))) := fun X E k e f r h => by
  simp only at h
  split at h
  · rename_i el t it ifs scope p hx
    have hx := asLC_of hx
    subst hx
    have L := g_lcF f r gi gc.q ge h
    exact ae_lc L.calm f.nd L.src L.ok L.tgt L.ifs L.elt L.set L.sl
  · cases h
theorem chks_nil_eq : chks nm .nil = fun _ l => match l with | [] => true | _ => false := by
  funext k l; cases l <;> rfl
theorem chkts_nil_eq : chkts nm .nil = fun _ l => match l with | [] => true | _ => false := by
  funext k l; cases l <;> rfl
theorem chks_cons_eq {e : Ex} {es : Es} : chks nm (.cons e es) = fun k l => match l with | x :: xs => noStar x && (chk nm e).e k x && chks nm es k xs | [] => false := by
  funext k l; cases l <;> rfl
theorem chkts_cons_eq {e : Ex} {es : Es} : chkts nm (.cons e es) = fun k l => match l with | x :: xs => (chk nm e).t k x && chkts nm es k xs | [] => false := by
  funext k l; cases l <;> rfl
theorem chks_nil : GoodS Γ nm T n (chks nm .nil) (chkts nm .nil) (dXs Γ .nil) := by rw [chks_nil_eq, chkts_nil_eq]; exact g_nil
theorem chks_nilP : GoodP Γ nm T n (chks nm .nil) (dXs Γ .nil).a := by rw [chks_nil_eq]; exact gp_nil
theorem chks_cons {e : Ex} {es : Es} (g : Good Γ nm T n (chk nm e) (dX Γ e)) (gs : GoodS Γ nm T n (chks nm es) (chkts nm es) (dXs Γ es)) : GoodS Γ nm T n (chks nm (.cons e es)) (chkts nm (.cons e es)) (dXs Γ (.cons e es)) := by rw [chks_cons_eq, chkts_cons_eq]; exact g_cons g gs
theorem chks_consP {e : Ex} {es : Es} (g : Good Γ nm T n (chk nm e) (dX Γ e)) (gs : GoodP Γ nm T n (chks nm es) (dXs Γ es).a) : GoodP Γ nm T n (chks nm (.cons e es)) (dXs Γ (.cons e es)).a := by rw [chks_cons_eq]; exact gp_cons g gs
theorem chko_none : GoodQ Γ nm T n (chko nm .none) (chkq nm .none) (dXo Γ .none) := by
  rw [show chko nm .none = fun _ l => match l with | none => true | _ => false from by funext k l; cases l <;> rfl]; exact go_none
theorem chko_some {e : Ex} (g : Good Γ nm T n (chk nm e) (dX Γ e)) : GoodQ Γ nm T n (chko nm (.some e)) (chkq nm (.some e)) (dXo Γ (.some e)) := by
  rw [show chko nm (.some e) = fun k l => match l with | some x => (chk nm e).e k x | _ => false from by funext k l; cases l <;> rfl]; exact go_some g
mutual
theorem good (Γ : Gam) (nm : Nm) (T : Tb) (n : Nat) : (e : Ex) → Good Γ nm T n (chk nm e) (dX Γ e)
  | .lit w => .pl (g_lit w)
  | .var i => .pl (g_var i)
  | .glob g => .pl (g_glob g)
  | .tup es => .pl (g_tup (goods Γ nm T n es).1)
  | .lst _ es => .pl (g_lst (goods Γ nm T n es).1)
  | .bin _ _ a b => .pl (g_bin (good Γ nm T n a).e (good Γ nm T n b).e)
  | .neg a => .pl (g_neg (good Γ nm T n a).e)
  | .cmp _ a b => g_cmp (good Γ nm T n a).e (good Γ nm T n b).e
  | .chain _ _ a b c => g_chain (good Γ nm T n a).e (good Γ nm T n b).e (good Γ nm T n c).e
  | .not a => g_not (good Γ nm T n a)
  | .bool _ es => g_bool (goods Γ nm T n es).1
  | .ite t a b => g_ite (good Γ nm T n t).t (good Γ nm T n a).e (good Γ nm T n b).e
  | .idx a b => .pl (g_idx (good Γ nm T n a).e (good Γ nm T n b).e)
  | .slice _ a lo hi => .pl (g_slice (good Γ nm T n a).e (goodo Γ nm T n lo) (goodo Γ nm T n hi))
  | .call _ es => .pl (g_call (goods Γ nm T n es).1)
  | .new _ _ es => .pl (g_new (goods Γ nm T n es).1)
  | .meth _ o es => .pl (g_meth (good Γ nm T n o).e (goods Γ nm T n es).1)
  | .attr o _ => .pl (g_attr (good Γ nm T n o).e)
  | .blt _ _ es => .pl (g_blt (goods Γ nm T n es).1)
  | .bm _ _ o es => .pl (g_bm (good Γ nm T n o).e (goods Γ nm T n es).1)
  | .isi _ a => .pl (g_isi (good Γ nm T n a).e)
  | .isi2 _ _ a => .pl (g_isi2 (good Γ nm T n a).e)
  | .lc _ elt _ src cond _ => .pl (g_lc (goodi Γ nm T n src) (goodo Γ nm T n cond) (good Γ nm T n elt).e)
  | .dget d b => .pl (g_dget (good Γ nm T n d).e (good Γ nm T n b).e)
  | .din _ a d => g_din (good Γ nm T n a).e (good Γ nm T n d).e
  | .dnew => .pl g_dnew
  | .kidx _ a => .pl (g_kidx (good Γ nm T n a).e)
  | .kin _ _ a => g_kin (good Γ nm T n a).e
  | .kget _ a => .pl (g_kget (good Γ nm T n a).e)
  | .disp _ _ es => .pl (g_disp (ct := chkts nm es) (goods Γ nm T n es).2)
  | .frz a => .pl (g_frz (good Γ nm T n a).e)
  | .rev _ a => .pl (g_rev (good Γ nm T n a).e)
  | .lrg _ a => .pl (g_lrg (good Γ nm T n a).e)
  | .sset _ a => .pl (g_sset (good Γ nm T n a).e)
  | .dfz a => .pl (g_dfz (good Γ nm T n a).e)
  | .lock a => .pl (g_lock (good Γ nm T n a).e)
  | .kindL a => .pl (g_kind (good Γ.low nm T (n - 2) a).e)
  | .isx _ _ => .pl g_isx
  | .xfl _ _ => .pl g_xfl
  | .isc _ a => .pl (g_isc (good Γ nm T n a).e)
  | .op1 _ _ a => .pl (g_op1 (good Γ nm T n a).e)
  | .op2 _ _ a b => .pl (g_op2 (good Γ nm T n a).e (good Γ nm T n b).e)
theorem goods (Γ : Gam) (nm : Nm) (T : Tb) (n : Nat) : (es : Es) → GoodS Γ nm T n (chks nm es) (chkts nm es) (dXs Γ es) ∧ GoodP Γ nm T n (chks nm es) (dXs Γ es).a
  | .nil => ⟨chks_nil, chks_nilP⟩
  | .cons e es => ⟨chks_cons (good Γ nm T n e) (goods Γ nm T n es).1, chks_consP (good Γ nm T n e) (goods Γ nm T n es).2⟩
theorem goodo (Γ : Gam) (nm : Nm) (T : Tb) (n : Nat) : (o : Eo) → GoodQ Γ nm T n (chko nm o) (chkq nm o) (dXo Γ o)
  | .none => chko_none
  | .some e => chko_some (good Γ nm T n e)
theorem goodi (Γ : Gam) (nm : Nm) (T : Tb) (n : Nat) : (s : Sr) → GoodI Γ nm T n (chki nm s) (dXi Γ s)
  | .seq e => fun X E k t x f r h => ai_seq f.K ((good Γ nm T n e).e X E k x f r h)
  | .rg1 e => gi_rg1 (good Γ nm T n e).e
  | .rg2 a b => gi_rg2 (good Γ nm T n a).e (good Γ nm T n b).e
  | .zip a b => gi_zip (good Γ nm T n a).e (good Γ nm T n b).e
  | .enum e => gi_enum (good Γ nm T n e).e
  | .keys e => fun X E k t x f r h => ai_keys ((good Γ nm T n e).e X E k x f r h)
end
end WL
namespace WL
open PySem PySem.Spec PyProof.Rows L2
variable {Γ : Gam} {nm : Nm} {T : Tb} {n : Nat}
def asAssign : Stmt → Option (Expr × Expr × Pos)
  | .Assign [t] v p => some (t, v, p)
  | _ => none
theorem asAssign_of {s : Stmt} {t v : Expr} {p : Pos} (h : asAssign s = some (t, v, p)) : s = .Assign [t] v p := by
  unfold asAssign at h
  split at h
  · cases h; rfl
  · cases h
def asExprS : Stmt → Option Expr
  | .Expr v _ => some v
  | _ => none
theorem asExprS_of {s : Stmt} {v : Expr} (h : asExprS s = some v) : ∃ p, s = .Expr v p := by
  cases s <;> first | (cases h; exact ⟨_, rfl⟩) | cases h
def asRet : Stmt → Option Expr
  | .Return (some v) _ => some v
  | _ => none
theorem asRet_of {s : Stmt} {v : Expr} (h : asRet s = some v) : ∃ p, s = .Return (some v) p := by
  unfold asRet at h
  split at h
  · cases h; exact ⟨_, rfl⟩
  · cases h
def asIfS : Stmt → Option (Expr × List Stmt × List Stmt)
  | .If t a b _ => some (t, a, b)
  | _ => none
theorem asIfS_of {s : Stmt} {t : Expr} {a b : List Stmt} (h : asIfS s = some (t, a, b)) : ∃ p, s = .If t a b p := by
  cases s <;> first | (cases h; exact ⟨_, rfl⟩) | cases h
def asFor : Stmt → Option (Expr × Expr × List Stmt)
  | .For t i b [] _ => some (t, i, b)
  | _ => none
theorem asFor_of {s : Stmt} {t i : Expr} {b : List Stmt} (h : asFor s = some (t, i, b)) : ∃ p, s = .For t i b [] p := by
  unfold asFor at h
  split at h
  · cases h; exact ⟨_, rfl⟩
  · cases h
def asWhile : Stmt → Option (Expr × List Stmt)
  | .While t b [] _ => some (t, b)
  | _ => none
theorem asWhile_of {s : Stmt} {t : Expr} {b : List Stmt} (h : asWhile s = some (t, b)) : ∃ p, s = .While t b [] p := by
  unfold asWhile at h
  split at h
  · cases h; exact ⟨_, rfl⟩
  · cases h
def asRaise : Stmt → Option Expr
  | .Raise (some (.Call g [.Constant (.str _) _ _] [] _)) none _ => some g
  | _ => none
theorem asRaise_of {s : Stmt} {g : Expr} (h : asRaise s = some g) : ∃ m j p q r, s = .Raise (some (.Call g [.Constant (.str m) j p] [] q)) none r := by
  unfold asRaise at h
  split at h
  · cases h; exact ⟨_, _, _, _, _, rfl⟩
  · cases h
def asTry : Stmt → Option (List Stmt × Expr × Str × List Stmt)
  | .Try body [.ExceptHandler (some g) (some n) (b :: suite) _] [] [] _ => some (body, g, n, b :: suite)
  | _ => none
theorem asTry_of {s : Stmt} {body l : List Stmt} {g : Expr} {n : Str} (h : asTry s = some (body, g, n, l)) : ∃ b suite p q, l = b :: suite ∧ s = .Try body [.ExceptHandler (some g) (some n) (b :: suite) p] [] [] q := by
  unfold asTry at h
  split at h
  · cases h; exact ⟨_, _, _, _, rfl, rfl⟩
  · cases h
def notPar : Expr → Expr → Bool
  | .Tuple .., .Tuple .. => false
  | .List .., .Tuple .. => false
  | _, _ => true
theorem notPar_of {t e : Expr} {env : Env} (h : notPar t e = true) : swappedStores [t] e env = pure none := by
  cases t <;> first
    | (cases e <;> first | rfl | cases h)
    | rfl
def swapB (k : Ck) (t e : Expr) : Bool := match asName t, asLC e with
  | some y, some (_, _, _, _, scope, p) => decide (k.sc.names.lookup y = some .local) && (t.pos.line == p.line) && !(scope.names.any fun (n, q) => n == y && (q == .local || q == .cell))
  | _, _ => false
def isCell (k : Ck) (t : Expr) : Bool := match asName t with
  | some y => decide (k.sc.names.lookup y = some .cell)
  | none => true
def isLC : Expr → Bool
  | .ListComp .. => true
  | _ => false
def chkAsg (nm : Nm) (k : Ck) (tg : Tg) (e : Ex) (t v : Expr) : Bool :=
  if isLC v then (match e, asLC v with
    | .lc _ elt g src cond vs, some (el, lt, it, ifs, scope, _) =>
      if swapB k t v then (match tg, asName t with | .name i, some y => decide (k.N[i]? = some y) | _, _ => false) && lcB k g vs (chki nm src) (chkq nm cond) (chk nm elt).e el lt it ifs scope
      else noStar t && isCell k t && chkTg k tg t && lcB k g vs (chki nm src) (chkq nm cond) (chk nm elt).e el lt it ifs scope
    | _, _ => false)
  else noComp v && noStar t && notPar t v && chkTg k tg t && (chk nm e).e k v
mutual
def chkS (nm : Nm) : Sc → Ck → Stmt → Bool
  | .asg tg e, k, s => (match asAssign s with | some (t, v, _) => chkAsg nm k tg e t v | none => false)
  | .expr e, k, s => (match asExprS s with | some v => noComp v && (chk nm e).e k v | none => false)
  | .ret e, k, s => (match asRet s with | some v => (chk nm e).e k v | none => false)
  | .ite t a b, k, s => (match asIfS s with | some (x, l, r) => (chk nm t).t k x && chkSs nm a k l && chkSs nm b k r | none => false)
  | .for_ tg src body, k, s => (match asFor s with | some (t, i, b) => !k.hot && chki nm src k t i && chkTg k tg t && noSet i && chkSs nm body k b | none => false)
  | .while_ t body, k, s => (match asWhile s with | some (x, b) => (chk nm t).t k x && chkSs nm body k b | none => false)
  | .fld o f e, k, s => (match asAssign s with
    | some (t, v, _) => (match asAttr t with | some (ov, x, _) => decide (x = f) && nm.flds.contains f && (chk nm o).e k ov && (chk nm e).e k v | none => false)
    | none => false)
  | .set o i e, k, s => (match asAssign s with
    | some (t, v, _) => (match asSub t with | some (ov, iv) => plainIx iv && (chk nm o).e k ov && (chk nm i).e k iv && (chk nm e).e k v | none => false)
    | none => false)
  | .dput o i e, k, s => (match asAssign s with
    | some (t, v, _) => (match asSub t with | some (ov, iv) => plainIx iv && (chk nm o).e k ov && (chk nm i).e k iv && (chk nm e).e k v | none => false)
    | none => false)
  | .never, _, _ => true
  | .lock s, k, x => chkS nm s k x
  | .raise c, k, s => (match asRaise s with | some g => !k.hot && nm.xr c && glName k (nm.xc c) g | none => false)
  | .try_ body c i h, k, s => (match asTry s with
    | some (b, g, n, l) => !k.hot && glName k (nm.xc c) g && decide (k.N[i]? = some n) && decide (k.sc.names.lookup n = some .local) && chkSs nm body k b && chkSs nm h k.suite l
    | none => false)
def chkSs (nm : Nm) : Ss → Ck → List Stmt → Bool
  | .nil, _, l => l.isEmpty
  | .cons s ss, k, l => (match l with | x :: xs => chkS nm s k x && chkSs nm ss k xs | [] => false)
end
structure FxS (Γ : Gam) (nm : Nm) (T : Tb) (n : Nat) (X : Cx) (E : XK) : Prop where
  e : Fx Γ nm T n X E
  own : PassesOwn (model X.prog X.w) X.A X.env X.xe
  tk : X.calm = true → Takes X (outE E)
  fr : X.calm = true → X.stack = X.env :: X.outer ∧ X.env.frame = some X.env.locals
def GoodSt (Γ : Gam) (nm : Nm) (T : Tb) (n : Nat) (c : Ck → Stmt → Bool) (d : DS) : Prop := ∀ X E k s, FxS Γ nm T n X E → Cor k X → c k s = true → PS X s (cS T E d)
def GoodSs (Γ : Gam) (nm : Nm) (T : Tb) (n : Nat) (c : Ck → List Stmt → Bool) (d : DS) : Prop := ∀ X E k s, FxS Γ nm T n X E → Cor k X → c k s = true → PSs X s (cS T E d)
theorem isLC_no {v : Expr} (h : isLC v = true) : ∃ x, asLC v = none ∨ asLC v = some x := by
  cases e : asLC v with
  | none => exact ⟨(v, v, v, [], ⟨.function, [], false, false, []⟩, ⟨0, 0, 0, 0⟩), .inl rfl⟩
  | some x => exact ⟨x, .inr rfl⟩
theorem sw_no {X : Cx} {k : Ck} (r : Cor k X) {t e : Expr} {el lt it : Expr} {ifs : List Expr} {scope : Scope} {p : Pos} {l : Nat} (he : e = .ListComp el [⟨lt, it, ifs, 0⟩] scope p) (h : isCell k t = true) : swapsWith e (some t) l X.env = pure false := by
  subst he
  cases t with
  | Name y q =>
    have h1 : k.sc.names.lookup y = some .cell := of_decide_eq_true h
    have h2 : X.env.kindOf y = some .cell := by show X.env.scope.names.lookup y = _; rw [r.sc]; exact h1
    unfold swapsWith
    simp only [h2]
    have : (some NameKind.cell == some NameKind.local) = false := by decide
    simp only [this, Bool.and_false, Bool.false_and]
  | _ => rfl
theorem good_asg (tg : Tg) (e : Ex) : GoodSt Γ nm T n (chkS nm (.asg tg e)) (dAsg (dX Γ e).e tg) := fun X E k s f r h => by
  replace h : (match asAssign s with | some (t, v, _) => chkAsg nm k tg e t v | none => false) = true := h
  split at h
  · rename_i t v p hs
    have hs := asAssign_of hs
    subst hs
    unfold chkAsg at h
    by_cases hl : isLC v = true
    · rw [if_pos hl] at h
      split at h
      · rename_i own elt g src cond vs el lt it ifs scope lp hv
        have hv' := hv
        have hv := asLC_of hv
        subst hv
        by_cases hw : swapB k t (.ListComp el [⟨lt, it, ifs, 0⟩] scope lp) = true
        · rw [if_pos hw] at h
          rw [Bool.and_eq_true] at h
          obtain ⟨h1, h2⟩ := h
          have L := g_lcF f.e r (goodi Γ nm T n src) (goodo Γ nm T n cond).q (good Γ nm T n elt).e h2
          split at h1
          · rename_i i y hy
            obtain ⟨py, rfl⟩ := asName_of hy
            have h1 := of_decide_eq_true h1
            have hw : (decide (k.sc.names.lookup y = some .local) && (py.line == lp.line) && !(scope.names.any fun (n, q) => n == y && (q == .local || q == .cell))) = true := hw
            simp only [Bool.and_eq_true, decide_eq_true_eq, Bool.not_eq_true'] at hw
            obtain ⟨⟨w1, w2⟩, w3⟩ := hw
            have hyl : X.env.scope.names.lookup y = some .local := by rw [r.sc]; exact w1
            exact as_lc L.calm f.e.nd (by rw [r.N]; exact h1) hyl (sw_true f.e.kind hyl (by simpa using w2) w3) L.src L.ok L.tgt L.ifs L.elt L.set L.sl
          · cases h1
        · rw [if_neg hw] at h
          simp only [Bool.and_eq_true] at h
          obtain ⟨⟨⟨h1, h2⟩, h3⟩, h4⟩ := h
          have L := g_lcF f.e r (goodi Γ nm T n src) (goodo Γ nm T n cond).q (good Γ nm T n elt).e h4
          exact as_asg h1 (ae_lc L.calm f.e.nd L.src L.ok L.tgt L.ifs L.elt L.set L.sl) (g_tg f.e r h3) (sw_no r rfl h2) (notPar_of (by cases t <;> rfl))
      · cases h
    · rw [if_neg hl] at h
      simp only [Bool.and_eq_true] at h
      obtain ⟨⟨⟨⟨h1, h2⟩, h3⟩, h4⟩, h5⟩ := h
      exact as_asg h2 ((good Γ nm T n e).e X E k v f.e r h5) (g_tg f.e r h4) (swaps_of h1) (notPar_of h3)
  · cases h
theorem swaps_at {e o : Expr} {f : Str} {p : Pos} {l : Nat} {env : Env} : swapsWith e (some (.Attribute o f p)) l env = pure false := by
  cases e <;> rfl
theorem swaps_sub {e o i : Expr} {p : Pos} {l : Nat} {env : Env} : swapsWith e (some (.Subscript o i p)) l env = pure false := by
  cases e <;> rfl
theorem asSub_of' {e a b : Expr} (h : asSub e = some (a, b)) : ∃ p, e = .Subscript a b p := asSub_of h
theorem tgt_same {T' : Tb} (st : T.Same T') {c : Option Nat} : tgtV T' c = tgtV T c := by
  cases c with
  | none => rfl
  | some c => show Value.ref (T'.xcl c) = .ref (T.xcl c); rw [st.xcl]
theorem fx_suite {X : Cx} {E : XK} {T' : Tb} {a : Addr} {oe : Obj} {d : Option Addr} {pn : List (Addr × Obj)} {y : Xn} (fe : Fx Γ nm T n X E) (st : T.Same T') (hz : Zc (.ref (T'.xcl y.cls)) d oe) (hf : ∃ vs, oe.data = .fields vs) (hd : XdOf T' y d) :
    Fx (Γ.held a y) nm T' n (X.suite a ((a, oe) :: pn)) E0w where
  K := by rw [st.K]; exact fe.K
  nd := fe.nd
  units := fe.units
  room := fun h => nomatch h
  xd := fun h => nomatch h
  kind := fe.kind
  fn := fun h => nomatch h
  cl := fun h => nomatch h
  cg := fun c x h => by rw [st.cls]; exact fe.cg c x h
  me := fun h => nomatch h
  meN := fe.meN
  gl := fun g x h => by
    obtain ⟨u, v, h1, h2, h3⟩ := fe.gl g x h
    exact ⟨u, v, h1, h2, fun F H => (h3 F H).tb st⟩
  kd := fun g x h => by
    obtain ⟨d, es, n, h1, h2, h3⟩ := fe.kd g x h
    refine ⟨d, es, n, h1, h2, fun z => ?_⟩
    obtain ⟨r, h4, h5, h6⟩ := h3 z
    refine ⟨r, h4, fun w hw => ?_, h6⟩
    obtain ⟨u, v, h7, h8, h9⟩ := h5 w hw
    exact ⟨u, v, h7, h8, fun F H => (h9 F H).tb st⟩
  flds := ⟨fun c => by rw [st.cls]; exact fe.flds.cl c, fun c f hf => by rw [st.cls]; exact fe.flds.no c f hf⟩
  free := fe.free
  ps := passes_E0w
  xg := fun c x h => by rw [st.xcl]; exact fe.xg c x h
  xr := fun c h => by
    have z := fe.xr c h
    have e : T'.xcl c = T.xcl c := by rw [st.xcl]
    exact ⟨by rw [e]; exact z.ex, by rw [e]; exact z.kp, by rw [e]; exact z.ra, by rw [e]; exact z.ty⟩
  isx := fun c k b h => by
    obtain ⟨z1, z2⟩ := fe.isx c k b h
    have e : T'.xcl k = T.xcl k := by rw [st.xcl]
    exact ⟨by show ExcC X.K (T'.xcl k); rw [e]; exact z1, by rw [tgt_same st, e]; exact z2⟩
  sub := fun c k b h => by rw [st.xcl]; exact fe.sub c k b h
  xf := fun c f h => by
    obtain ⟨z1, z2⟩ := fe.xf c f h
    have e : T'.xcl c = T.xcl c := by rw [st.xcl]
    exact ⟨by show ExcC X.K (T'.xcl c); rw [e]; exact z1, by rw [e]; exact z2⟩
  isc := fun c k b h => by
    obtain ⟨z1, z2⟩ := fe.isc c k b h
    have e : T'.cls k = T.cls k := by rw [st.cls]
    have e2 : T'.cls c = T.cls c := by rw [st.cls]
    exact ⟨⟨by rw [e]; exact z1.cl, by rw [e]; exact z1.ha, z1.hn, z1.ht, by rw [e]; exact z1.hm⟩, by rw [e, e2]; exact z2⟩
  ic := fun c h t => by rw [st.cls]; exact fe.ic c h t
  xn := fun b x h => by
    cases h
    exact ⟨X, oe, pn, d, rfl, hf, hz, hd⟩
  lo := fun h => nomatch h
mutual
theorem goodS (Γ : Gam) (nm : Nm) (T : Tb) (n : Nat) : (s : Sc) → GoodSt Γ nm T n (chkS nm s) (dSc Γ s)
  | .asg tg e => good_asg tg e
  | .expr e => fun X E k s f r h => by
    replace h : (match asExprS s with | some v => noComp v && (chk nm e).e k v | none => false) = true := h
    split at h
    · rename_i v hs
      obtain ⟨p, rfl⟩ := asExprS_of hs
      rw [Bool.and_eq_true] at h
      exact as_expr ((good Γ nm T n e).e X E k v f.e r h.2) h.1
    · cases h
  | .ret e => fun X E k s f r h => by
    replace h : (match asRet s with | some v => (chk nm e).e k v | none => false) = true := h
    split at h
    · rename_i v hs
      obtain ⟨p, rfl⟩ := asRet_of hs
      exact as_ret ((good Γ nm T n e).e X E k v f.e r h)
    · cases h
  | .ite t a b => fun X E k s f r h => by
    replace h : (match asIfS s with | some (x, l, r) => (chk nm t).t k x && chkSs nm a k l && chkSs nm b k r | none => false) = true := h
    split at h
    · rename_i x l rr hs
      obtain ⟨p, rfl⟩ := asIfS_of hs
      simp only [Bool.and_eq_true] at h
      exact as_if ((good Γ nm T n t).t X E k x f.e r h.1.1) (goodSs Γ nm T n a X E k l f r h.1.2) (goodSs Γ nm T n b X E k rr f r h.2)
    · cases h
  | .for_ tg src body => fun X E k s f r h => by
    replace h : (match asFor s with | some (t, i, b) => !k.hot && chki nm src k t i && chkTg k tg t && noSet i && chkSs nm body k b | none => false) = true := h
    split at h
    · rename_i t i b hs
      obtain ⟨p, rfl⟩ := asFor_of hs
      simp only [Bool.and_eq_true] at h
      exact as_for f.own (r.cold h.1.1.1.1) (goodi Γ nm T n src X E k t i f.e r h.1.1.1.2) (g_tg f.e r h.1.1.2) (goodSs Γ nm T n body X E k b f r h.2) h.1.2
    · cases h
  | .while_ t body => fun X E k s f r h => by
    replace h : (match asWhile s with | some (x, b) => (chk nm t).t k x && chkSs nm body k b | none => false) = true := h
    split at h
    · rename_i x b hs
      obtain ⟨p, rfl⟩ := asWhile_of hs
      simp only [Bool.and_eq_true] at h
      exact as_while f.own ((good Γ nm T n t).t X E k x f.e r h.1) (goodSs Γ nm T n body X E k b f r h.2)
    · cases h
  | .fld o fl e => fun X E k s f r h => by
    replace h : (match asAssign s with
      | some (t, v, _) => (match asAttr t with | some (ov, x, _) => decide (x = fl) && nm.flds.contains fl && (chk nm o).e k ov && (chk nm e).e k v | none => false)
      | none => false) = true := h
    split at h
    · rename_i t v p hs
      have hs := asAssign_of hs
      subst hs
      split at h
      · rename_i ov x ap ht
        have ht := asAttr_of ht
        subst ht
        simp only [Bool.and_eq_true, decide_eq_true_eq] at h
        obtain ⟨⟨⟨rfl, h1⟩, h2⟩, h3⟩ := h
        exact as_fld f.e.K f.e.flds (List.contains_iff_mem.mp h1) ((good Γ nm T n o).e X E k ov f.e r h2) ((good Γ nm T n e).e X E k v f.e r h3) swaps_at
      · cases h
    · cases h
  | .set o i e => fun X E k s f r h => by
    replace h : (match asAssign s with
      | some (t, v, _) => (match asSub t with | some (ov, iv) => plainIx iv && (chk nm o).e k ov && (chk nm i).e k iv && (chk nm e).e k v | none => false)
      | none => false) = true := h
    split at h
    · rename_i t v p hs
      have hs := asAssign_of hs
      subst hs
      split at h
      · rename_i ov iv ht
        obtain ⟨q, rfl⟩ := asSub_of ht
        simp only [Bool.and_eq_true] at h
        obtain ⟨⟨⟨h1, h2⟩, h3⟩, h4⟩ := h
        have O := (good Γ nm T n o).e X E k ov f.e r h2
        have I := (good Γ nm T n i).e X E k iv f.e r h3
        exact as_set O I ((good Γ nm T n e).e X E k v f.e r h4) swaps_sub (pg_sub O I set_list (by intro _; cases iv <;> first | rfl | cases h1))
      · cases h
    · cases h
  | .dput o i e => fun X E k s f r h => by
    replace h : (match asAssign s with
      | some (t, v, _) => (match asSub t with | some (ov, iv) => plainIx iv && (chk nm o).e k ov && (chk nm i).e k iv && (chk nm e).e k v | none => false)
      | none => false) = true := h
    split at h
    · rename_i t v p hs
      have hs := asAssign_of hs
      subst hs
      split at h
      · rename_i ov iv ht
        obtain ⟨q, rfl⟩ := asSub_of ht
        simp only [Bool.and_eq_true] at h
        obtain ⟨⟨⟨h1, h2⟩, h3⟩, h4⟩ := h
        exact as_dput (by have := units_of f.e; omega) ((good Γ nm T n o).e X E k ov f.e r h2) ((good Γ nm T n i).e X E k iv f.e r h3) ((good Γ nm T n e).e X E k v f.e r h4) swaps_sub
      · cases h
    · cases h
  | .never => fun X E k s f r h => as_never
  | .lock s => fun X E k st f r h => as_lock (goodS Γ nm T n s X E k st f r h)
  | .raise c => fun X E k s f r h => by
    replace h : (match asRaise s with | some g => !k.hot && nm.xr c && glName k (nm.xc c) g | none => false) = true := h
    split at h
    · rename_i g hs
      obtain ⟨m, j, p, q, q2, rfl⟩ := asRaise_of hs
      simp only [Bool.and_eq_true] at h
      have hc := r.cold h.1.1
      obtain ⟨x, p2, h2, rfl, hg, hn⟩ := glName_of r h.2
      exact as_raise hc (f.tk hc) (f.e.xr c h.1.2) (f.e.xg c x h2) hg hn
    · cases h
  | .try_ body c i hb => fun X E k s f r h => by
    replace h : (match asTry s with
      | some (b, g, n, l) => !k.hot && glName k (nm.xc c) g && decide (k.N[i]? = some n) && decide (k.sc.names.lookup n = some .local) && chkSs nm body k b && chkSs nm hb k.suite l
      | none => false) = true := h
    split at h
    · rename_i b g nn l hs
      obtain ⟨b0, suite, p, q, rfl, rfl⟩ := asTry_of hs
      simp only [Bool.and_eq_true, decide_eq_true_eq] at h
      obtain ⟨⟨⟨⟨⟨h0, h1⟩, h2⟩, h3⟩, h4⟩, h5⟩ := h
      have hc := r.cold h0
      obtain ⟨x, p2, h6, rfl, hg, hn⟩ := glName_of r h1
      obtain ⟨fr1, fr2⟩ := f.fr hc
      have fe := f.e
      refine as_try (c := .ref (T.xcl c)) (fe.xd hc) fr1 fr2 fe.nd (by rw [r.N]; exact h2) (by show X.env.scope.names.lookup nn = _; rw [r.sc]; exact h3) ⟨hg, (okName_of hn).1, .inl (fe.xg c x h6)⟩ (f.tk hc) (fe.sub c) (fun E' pn xe tk ps po => ?_) fun T' a oe d pn y st hz hf hd => ?_
      · refine goodSs Γ nm T n body (X.tr pn xe) E' k b ⟨?_, po, fun _ => tk, fun _ => ⟨fr1, fr2⟩⟩ ⟨r.N, r.sc, r.fno, r.hot⟩ h4
        exact { fe with
          flds := ⟨fe.flds.cl, fe.flds.no⟩
          ps := ps
          xr := fun c h => ⟨(fe.xr c h).ex, (fe.xr c h).kp, (fe.xr c h).ra, (fe.xr c h).ty⟩
          isc := fun c k b h => ⟨⟨(fe.isc c k b h).1.cl, (fe.isc c k b h).1.ha, (fe.isc c k b h).1.hn, (fe.isc c k b h).1.ht, (fe.isc c k b h).1.hm⟩, (fe.isc c k b h).2⟩
          xn := fun a x h => by
            obtain ⟨X0, oe, pn, d, e, _⟩ := fe.xn a x h
            rw [e] at hc
            cases hc
          fn := fe.fn
          cl := fe.cl
          me := fe.me
          lo := fun hc h => ⟨(fe.lo hc h).n2, (fe.lo hc h).fn, (fe.lo hc h).cl, (fe.lo hc h).me, (fe.lo hc h).lm, (fe.lo hc h).ki⟩ }
      · refine goodSs (Γ.held a y) nm T' n hb (X.suite a ((a, oe) :: pn)) E0w k.suite (b0 :: suite) ⟨fx_suite fe st hz hf hd, fun _ _ h => h.elim, (fun h => nomatch h), (fun h => nomatch h)⟩ ⟨r.N, r.sc, r.fno, fun h => nomatch h⟩ h5
    · cases h
theorem goodSs (Γ : Gam) (nm : Nm) (T : Tb) (n : Nat) : (s : Ss) → GoodSs Γ nm T n (chkSs nm s) (dSs Γ s)
  | .nil => fun X E k l f r h => by
    cases l with
    | nil => exact ass_nil
    | cons _ _ => cases h
  | .cons s ss => fun X E k l f r h => by
    cases l with
    | nil => cases h
    | cons x xs =>
      replace h : (chkS nm s k x && chkSs nm ss k xs) = true := h
      rw [Bool.and_eq_true] at h
      exact ass_cons (goodS Γ nm T n s X E k x f r h.1) (goodSs Γ nm T n ss X E k xs f r h.2)
end
end WL
namespace WL
open PySem PySem.Spec PyProof.Rows L2

structure Fd where
  N : List Str
  np : Nat
  code : Ss
  args : Arguments
  body : List Stmt
  scope : Scope
  /-- it makes lambdas -/
  lam : Bool
structure Kd where
  N : List Str
  code : Ss
  args : Arguments
  body : List Stmt
  scope : Scope
def Fd.ps (d : Fd) : List Str := d.N.take d.np
def Fd.ok (nm : Nm) (d : Fd) : Bool := C8.scC d.N d.ps d.scope && decide (d.np ≤ d.N.length) && chkSs nm d.code ⟨d.N, d.scope, fun _ => true, false⟩ d.body
def Fd.bnd (d : Fd) : Prop := ∀ (x qual : Str) (kV doc pm : Value) (an : Option Addr) (cdv ct : Value) (us : List Value), us.length = d.np → bindArgs (PySem.W.fnOf x qual d.args d.body d.scope .none kV doc pm an cdv ct) ⟨us, []⟩ = pure (d.ps.zip us)
structure Fd.Good (nm : Nm) (d : Fd) : Prop where
  ok : d.ok nm = true
  bnd : d.bnd
def startW (N : List Str) (ws : List W) : Sw := ws.map some ++ List.replicate (N.length - ws.length) none
def Kd.parts (d : Kd) : Option (Str × Str × Str × List Stmt) := match d.body with
  | [.Try [.Expr (.Call (.Name a _) [] [] _) _] [.ExceptHandler (some (.Name ex _)) (some n) (b :: suite) _] [] [] _, .Return (some (.Constant (.str z) _ _)) _] => if z = "" then some (a, ex, n, b :: suite) else none
  | _ => none
theorem Kd.parts_of {d : Kd} {a ex n : Str} {l : List Stmt} (h : d.parts = some (a, ex, n, l)) : ∃ (b : Stmt) (suite : List Stmt) (j : Nat) (p1 p2 p3 p4 p5 p6 p7 p8 : Pos), l = b :: suite ∧
    d.body = [.Try [.Expr (.Call (.Name a p1) [] [] p2) p3] [.ExceptHandler (some (.Name ex p4)) (some n) (b :: suite) p5] [] [] p6, .Return (some (.Constant (.str "") j p7)) p8] := by
  unfold Kd.parts at h
  split at h
  · rename_i hb
    split at h
    · rename_i hz
      cases h
      subst hz
      exact ⟨_, _, _, _, _, _, _, _, _, _, _, rfl, hb⟩
    · cases h
  · cases h
def Kd.ok (nm : Nm) (hall : Nat) (d : Kd) : Bool := match d.parts with
  | some (a, ex, n, l) => C8.scC d.N [a] d.scope && decide (nm.xc hall = some ex) && decide (d.N[0]? = some a) && decide (d.N[1]? = some n) && decide (d.scope.names.lookup n = some .local) && decide (d.scope.names.lookup ex = some .globalImplicit) && okName ex && okName a && chkSs nm d.code ⟨d.N, d.scope, fun _ => true, true⟩ l
  | none => false
def Kd.bnd (d : Kd) : Prop := ∀ (x qual a : Str) (kV doc pm : Value) (an : Option Addr) (cdv ct : Value) (us : List Value), d.N[0]? = some a → us.length = 1 → bindArgs (PySem.W.fnOf x qual d.args d.body d.scope .none kV doc pm an cdv ct) ⟨us, []⟩ = pure ([a].zip us)
structure Kd.Good (nm : Nm) (hall : Nat) (d : Kd) : Prop where
  ok : d.ok nm hall = true
  bnd : d.bnd
def noP : Wp := fun _ _ _ _ => False
def dn (p : Nat → Wp) : Nat → Wp
  | 0 => noP
  | k + 1 => p k
def dn2 (p : Nat → Wp) : Nat → Wp
  | 0 => noP
  | 1 => noP
  | k + 2 => p k
structure Spx where
  gl : Nat → W
  kd : Nat → List (Str × W)
  fn : Nat → Nat → Wp
  ini : Nat → Nat → Wp
  me : Nat → Nat → Option (Nat → Wp)
  isx : Option Nat → Nat → Option Bool
  sub : Nat → Nat → Option Bool
  xf : Nat → Str → Bool
  isc : Nat → Nat → Option Bool
  kind : Xn → Mh → QW → Prop
  hall : Nat
def Spx.gam (S : Spx) (nm : Nm) (k : Nat) (lam : Bool) : Gam where
  gl := S.gl
  kd := S.kd
  fn f := dn (S.fn f) k
  ini c := dn2 (S.ini c) k
  me c m := (S.me c m).map fun p => dn p k
  meN := nm.me
  fnL f := dn (S.fn f) (k - 2)
  iniL c := dn2 (S.ini c) (k - 2)
  meL c m := (S.me c m).map fun p => dn p (k - 2)
  two := lam && decide (2 ≤ k)
  xn := none
  isx := S.isx
  sub := S.sub
  xf := S.xf
  isc := S.isc
  kind := S.kind
structure Txt where
  fn : Nat → Fd
  ini : Nat → Fd
  me : Nat → Nat → Fd
  kn : Kd
def KeepC (Γ : Gam) (N : List Str) (np : Nat) (code : Ss) (p : Wp) : Prop := ∀ ws M Q Ex, p ws M Q Ex → ws.length = np ∧ dSs Γ code { nx := fun _ M' => Q .non M', rt := Q, ex := Ex } (startW N ws) M
def KeepG (Γ : Gam) (N : List Str) (np : Nat) (code : Ss) (p : Wp) : Prop := ∀ ws M Q Ex, p ws M Q Ex → ws.length = np ∧ dSs Γ code { nx := fun _ M' => fgQ Q .non M', rt := fgQ Q, ex := fgX Ex } (startW N ws) M
def KeepD (Γ : Gam) (N : List Str) (np : Nat) (code : Ss) (p : Wp) : Prop := ∀ ws M Q Ex, p ws M Q Ex → ws.length = np ∧ ∃ D : Dw, dSs Γ code D (startW N ws) M ∧ (∀ σ M', D.nx σ M' → fgQ Q .non M') ∧ (∀ w M', D.rt w M' → fgQ Q w M') ∧ (∀ σ M', ¬ D.bk σ M') ∧ (∀ σ M', ¬ D.ct σ M') ∧ ∀ x M', D.ex x M' → fgX Ex x M'
theorem KeepC.d {Γ : Gam} {N : List Str} {np : Nat} {code : Ss} {p : Wp} (h : KeepC Γ N np code p) : KeepD Γ N np code p := fun ws M Q Ex q => ⟨(h ws M Q Ex q).1, _, (h ws M Q Ex q).2, fun _ _ q => .of q, fun _ _ q => .of q, fun _ _ q => q, fun _ _ q => q, fun _ _ q => .of q⟩
theorem KeepG.d {Γ : Gam} {N : List Str} {np : Nat} {code : Ss} {p : Wp} (h : KeepG Γ N np code p) : KeepD Γ N np code p := fun ws M Q Ex q => ⟨(h ws M Q Ex q).1, _, (h ws M Q Ex q).2, fun _ _ q => q, fun _ _ q => q, fun _ _ q => q, fun _ _ q => q, fun _ _ q => q⟩
abbrev Keeps (Γ : Gam) (d : Fd) (p : Wp) : Prop := KeepD Γ d.N d.np d.code p
structure AllKeep (S : Spx) (nm : Nm) (X : Txt) : Prop where
  fn : ∀ f x, nm.fn f = some x → ∀ k, Keeps (S.gam nm k (X.fn f).lam) (X.fn f) (S.fn f k)
  ini : ∀ c x, nm.cl c = some x → ∀ k, Keeps (S.gam nm k (X.ini c).lam) (X.ini c) (S.ini c k)
  me : ∀ c m p, S.me c m = some p → ∀ k, Keeps (S.gam nm k (X.me c m).lam) (X.me c m) (p k)
  kn : ∀ x, nm.kn = some x → ∀ y M Q, S.kind y M Q → dCatch (S.sub S.hall) (fun a y => dSs ((S.gam nm 0 false).held a y) X.kn.code) 1 X.kn.N.length (dvK Q) y M
structure AllGood (S : Spx) (nm : Nm) (X : Txt) : Prop where
  fn : ∀ f x, nm.fn f = some x → (X.fn f).Good nm
  ini : ∀ c x, nm.cl c = some x → (X.ini c).Good nm
  me : ∀ c m p, S.me c m = some p → (X.me c m).Good nm
  kn : ∀ x, nm.kn = some x → X.kn.Good nm S.hall
def LmOk (T : Tb) (mg : Str → Option Value) (base : Heap) (d : Fd) (qual : Str) (a : Addr) : Prop := d.lam = true → ∀ oc od fd osl, T.K.lookup a = some ⟨oc, od, .func fd, osl⟩ →
  ∃ c P, fd.code = .ref c ∧ LamX.TabB base mg c P ∧ (P, qual ++ ".<locals>." ++ "<lambda>") ∈ T.tabs ∧ ∀ p ∈ T.tabs, p.1 = P → p.2 = qual ++ ".<locals>." ++ "<lambda>"
structure Says (S : Spx) (nm : Nm) (X : Txt) (T : Tb) (w : World) (mg : Str → Option Value) (base : Heap) : Prop where
  fn : ∀ f x, nm.fn f = some x → ∃ a fd qual, mg x = some (.ref a) ∧ FunD T.K x qual (X.fn f).args (X.fn f).body (X.fn f).scope [] [] a fd ∧ LmOk T mg base (X.fn f) qual a
  ini : ∀ c x, nm.cl c = some x → mg x = some (.ref (T.cls c)) ∧ ∃ a fd qual, Mk T.K (T.cls c) a ∧ FunD T.K "__init__" qual (X.ini c).args (X.ini c).body (X.ini c).scope [] [] a fd ∧ LmOk T mg base (X.ini c) qual a
  me : ∀ c m p, S.me c m = some p → ∃ a fd qual, Meth T.K (T.cls c) (nm.me m) a ∧ FunD T.K (nm.me m) qual (X.me c m).args (X.me c m).body (X.me c m).scope [] [] a fd ∧ LmOk T mg base (X.me c m) qual a
  gl : ∀ g x, nm.gl g = some x → ∃ u v, mg x = some u ∧ RelV v u ∧ ∀ F H, RW T F H (S.gl g) v
  kd : ∀ g x, nm.kd g = some x → ∃ d es n, mg x = some (.ref d) ∧ KDict T.K w d es n ∧
    ∀ z, ∃ r, PySem.W.nsIn T.K d z = some r ∧ (∀ y, tlook (S.kd g) z = some y → ∃ u v, r = some u ∧ RelV v u ∧ ∀ F H, RW T F H y v) ∧ (tlook (S.kd g) z = none → r = none)
  cls : ∀ c, Cls T.K (T.cls c)
  noat : ∀ c, ∀ f ∈ nm.flds, NoAttr T.K (T.cls c) f
  free : ∀ x, nm.free.contains x = true → mg x = none
  xd : T.xd = none
  xg : ∀ c x, nm.xc c = some x → mg x = some (.ref (T.xcl c))
  xr : ∀ c, nm.xr c = true → ∀ X : Cx, X.K = T.K → XrF T X c
  isx : ∀ c k b, S.isx c k = some b → ExcC T.K (T.xcl k) ∧ PySem.W.kitOne T.K (.ref (T.xcl k)) (tgtV T c) = some b
  sub : ∀ c k b, S.sub c k = some b → PySem.W.exmOne T.K (.ref (T.xcl k)) (.ref (T.xcl c)) = some b
  xf : ∀ c f, S.xf c f = true → ExcC T.K (T.xcl c) ∧ PySem.W.findIn T.K (.ref (T.xcl c)) f = some none
  isc : ∀ c k b, S.isc c k = some b → (∀ X : Cx, X.K = T.K → IcF T X k) ∧ PySem.W.kitOne T.K (.ref (T.cls k)) (.ref (T.cls c)) = some b
  ic : ∀ c, nm.ic c = true → ∀ t : Ty, PySem.W.kitOne T.K (.type t.name) (.ref (T.cls c)) = some false
  kn : ∀ x, nm.kn = some x → ∃ a fd, mg x = some (.ref a) ∧ FunD T.K x x X.kn.args X.kn.body X.kn.scope [] [] a fd

section
variable {S : Spx} {nm : Nm} {Z : Txt} {T : Tb} {P : Program} {w : World} {mg : Str → Option Value} {base : Heap}
theorem rs_start {F : Addr → Prop} {H : Hp} {N : List Str} {ws : List W} {vs : List V} (r : RWs T F H ws vs) : RS T F H (startW N ws) (L2.start N vs) := by
  have hl := r.length
  refine ⟨?_, fun i w h => ?_⟩
  · unfold startW L2.start
    rw [List.length_append, List.length_append, List.length_map, List.length_map, List.length_replicate, List.length_replicate]
    omega
  · unfold startW at h
    unfold L2.start
    by_cases hi : i < ws.length
    · rw [List.getElem?_append_left (by simpa using hi), List.getElem?_map] at h
      rw [List.getElem?_append_left (by simp; omega), List.getElem?_map]
      cases e : ws[i]? with
      | none => rw [e] at h; cases h
      | some y =>
        rw [e] at h
        cases h
        obtain ⟨v, h1, h2⟩ := r.get e
        exact ⟨v, by rw [h1]; rfl, h2⟩
    · rw [List.getElem?_append_right (by simpa using Nat.le_of_not_lt hi)] at h
      have := List.mem_of_getElem? h
      rw [List.mem_replicate] at this
      cases this.2
theorem start_len {N : List Str} {ws : List W} {vs : List V} (h : ws.length = vs.length) : (startW N ws).length ≤ (L2.start N vs).length := by
  unfold startW L2.start
  rw [List.length_append, List.length_append, List.length_map, List.length_map, List.length_replicate, List.length_replicate]
  omega
theorem fn_no {k : Nat} {a : Addr} {fd : FuncData} {ps : List Str} : FnOk P w T.K mg base (L2.CX P w) k a fd ps (cP T noP) :=
  ⟨fun _ _ _ _ ⟨_, _, _, _, _, _, _, h, _⟩ => h.elim, fun _ _ _ _ _ _ _ _ _ _ _ _ _ ⟨_, _, _, _, _, _, _, h, _⟩ => h.elim⟩
structure Below (S : Spx) (nm : Nm) (Z : Txt) (T : Tb) (P : Program) (w : World) (mg : Str → Option Value) (base : Heap) (k : Nat) : Prop where
  fn : ∀ f x, nm.fn f = some x → ∀ a fd qual, FunD T.K x qual (Z.fn f).args (Z.fn f).body (Z.fn f).scope [] [] a fd → LmOk T mg base (Z.fn f) qual a → FnOk P w T.K mg base (L2.CX P w) (k + 1) a fd (Z.fn f).ps (cP T (dn (S.fn f) k))
  ini : ∀ c x, nm.cl c = some x → ∀ a fd qual, FunD T.K "__init__" qual (Z.ini c).args (Z.ini c).body (Z.ini c).scope [] [] a fd → LmOk T mg base (Z.ini c) qual a → FnOk P w T.K mg base (L2.CX P w) k a fd (Z.ini c).ps (cP T (dn2 (S.ini c) k))
  me : ∀ c m p, S.me c m = some p → ∀ a fd qual, FunD T.K (nm.me m) qual (Z.me c m).args (Z.me c m).body (Z.me c m).scope [] [] a fd → LmOk T mg base (Z.me c m) qual a → FnOk P w T.K mg base (L2.CX P w) (k + 1) a fd (Z.me c m).ps (cP T (dn p k))
theorem bnd_of {x qual : Str} {d : Fd} {a : Addr} {fd : FuncData} (g : d.Good nm) (F : FunD T.K x qual d.args d.body d.scope [] [] a fd) : Binds T.K fd d.ps [] := by
  have ok := g.ok
  unfold Fd.ok at ok
  simp only [Bool.and_eq_true, decide_eq_true_eq] at ok
  have hl : d.ps.length = d.np := by unfold Fd.ps; rw [List.length_take]; omega
  exact F.bindsN fun kV doc pm an cdv ct us h => g.bnd x qual kV doc pm an cdv ct us (by rw [h, hl])
theorem fx_top {X : Cx} {Γ : Gam} {n : Nat} {E : XK} (sy : Says S nm Z T w mg base) (hΓ : Γ.gl = S.gl ∧ Γ.kd = S.kd ∧ Γ.meN = nm.me ∧ Γ.isx = S.isx ∧ Γ.sub = S.sub ∧ Γ.xf = S.xf ∧ Γ.isc = S.isc ∧ Γ.xn = none) (hK : X.K = T.K) (hm : X.mg = mg) (hw : X.w = w)
    (nd : X.N.Nodup) (units : X.A.units + 65 < cLine) (room : X.calm = true → Room (n + 1) X.A) (kind : X.env.scope.kind = .function) (ps : Passes (L2.CX X.prog X.w) X E)
    (fn : X.calm = true → ∀ f x, nm.fn f = some x → FnF T X (n + 1) x (Γ.fn f)) (cl : X.calm = true → ∀ c x, nm.cl c = some x → MkF T X n c x (Γ.ini c)) (me : X.calm = true → ∀ m c p, Γ.me c m = some p → MeF T X (n + 1) c (Γ.meN m) p)
    (lo : X.calm = true → Γ.two = true → Lo Γ nm T n X) : Fx Γ nm T n X E where
  K := hK
  nd := nd
  units := units
  room := room
  xd := fun _ => sy.xd
  kind := kind
  fn := fn
  cl := cl
  cg := fun c x h => by rw [hm]; exact (sy.ini c x h).1
  me := me
  meN := fun m => by rw [hΓ.2.2.1]
  gl := fun g x h => by
    show ∃ u v, X.mg x = some u ∧ RelV v u ∧ ∀ F H, RW T F H (Γ.gl g) v
    rw [hΓ.1, hm]
    exact sy.gl g x h
  kd := fun g x h => by
    have := sy.kd g x h
    show ∃ d es n, X.mg x = some (.ref d) ∧ KDict X.K X.w d es n ∧ _
    rw [hΓ.2.1, hm, hw, hK]
    exact this
  flds := ⟨fun c => by rw [hK]; exact sy.cls c, fun c f hf => by rw [hK]; exact sy.noat c f hf⟩
  free := fun x h => by rw [hm]; exact sy.free x h
  ps := ps
  xg := fun c x h => by rw [hm]; exact sy.xg c x h
  xr := fun c h => sy.xr c h X hK
  isx := fun c k b h => by
    show ExcC X.K _ ∧ _
    rw [hK]
    exact sy.isx c k b (by rw [← hΓ.2.2.2.1]; exact h)
  sub := fun c k b h => by rw [hK]; exact sy.sub c k b (by rw [← hΓ.2.2.2.2.1]; exact h)
  xf := fun c f h => by
    show ExcC X.K _ ∧ _
    rw [hK]
    exact sy.xf c f (by rw [← hΓ.2.2.2.2.2.1]; exact h)
  isc := fun c k b h => by
    obtain ⟨h1, h2⟩ := sy.isc c k b (by rw [← hΓ.2.2.2.2.2.2.1]; exact h)
    exact ⟨h1 X hK, by rw [hK]; exact h2⟩
  ic := fun c h t => by rw [hK]; exact sy.ic c h t
  xn := fun a x h => by rw [hΓ.2.2.2.2.2.2.2] at h; cases h
  lo := lo
theorem ki_of (sy : Says S nm Z T w mg base) (gd : AllGood S nm Z) (kp : AllKeep S nm Z) {x : Str} (hx : nm.kn = some x) {X : Cx} (hw : X.w = w) (hK : X.K = T.K) (hm : X.mg = mg) (hu : X.A.units + 100 < cLine) : ∃ TT, KiF T X x S.kind TT := by
  obtain ⟨g, fd, h1, F⟩ := sy.kn x hx
  have G := gd.kn x hx
  have ok := G.ok
  unfold Kd.ok at ok
  split at ok
  · rename_i a ex n l hp
    obtain ⟨b, suite, j, p1, p2, p3, p4, p5, p6, p7, p8, rfl, hb⟩ := Kd.parts_of hp
    simp only [Bool.and_eq_true, decide_eq_true_eq] at ok
    obtain ⟨⟨⟨⟨⟨⟨⟨⟨o1, o2⟩, o3⟩, o4⟩, o5⟩, o6⟩, o7⟩, o8⟩, o9⟩ := ok
    have sc := C8.fnScope_by o1
    have hbs := F.bindsN fun kV doc pm an cdv ct us h => G.bnd x x a kV doc pm an cdv ct us o3 h
    have hkp := F.kp
    obtain ⟨oc, od, dV, kV, doc, pm, an, cdv, ct, osl, hfd, lk, hcd, _, _⟩ := F.ex
    subst hfd
    have hex : X.mg ex = some (.ref (T.xcl S.hall)) := by rw [hm]; exact sy.xg _ _ o2
    refine ⟨TTk T X.K (.ref (T.xcl S.hall)) (fun a y => dSs ((S.gam nm 0 false).held a y) Z.kn.code) Z.kn.N.length, ⟨g, _, _, _, dV, kV, doc, pm, cdv, ct, oc, an, od, osl, Z.kn.N, a, by rw [hm]; exact h1, by rw [hK]; exact hkp, by rw [hK]; exact lk, by rw [hK]; exact hcd, by rw [hK]; exact hbs, sc, o3, ?_, (okName_of o8).1, (okName_of o8).2.1, fun q => ?_⟩, ?_⟩
    · rcases sc.par a (by simp) with z | z
      · exact .inl z
      · exact .inr (.inl z)
    · rw [hb]
      refine kind_gives (T := T) sc.nd o4 o5 o6 hex (okName_of o7).1 (fun f => ?_) fun s H T' c oe d pn y st hz hf hd => ?_
      · unfold L2.start; rfl
      · have fe : Fx (S.gam nm 0 false) nm T 0 { (cxOf C8.CX0 X.prog X.w X.K X.mg X.base Z.kn.N x Z.kn.scope g cdv X.A X.stack s H C8.E0).nox with calm := false } E0w :=
          fx_top sy ⟨rfl, rfl, rfl, rfl, rfl, rfl, rfl, rfl⟩ hK hm hw sc.nd (by show X.A.units + 3 + 65 < cLine; omega) (fun h => nomatch h) sc.kind passes_E0w (fun h => nomatch h) (fun h => nomatch h) (fun h => nomatch h) (fun h => nomatch h)
        have fs := fx_suite (a := c) (oe := oe) (pn := pn) fe st hz hf hd
        exact goodSs ((S.gam nm 0 false).held c y) nm T' 0 Z.kn.code _ E0w ⟨Z.kn.N, Z.kn.scope, fun _ => true, true⟩ (b :: suite) ⟨fs, fun _ _ h => h.elim, fun h => (nomatch h), fun h => (nomatch h)⟩ ⟨rfl, rfl, fun _ _ => rfl, fun h => (nomatch h)⟩ o9
    · intro tl F' H M Qw Q Sm kq h
      exact kind_tt sy.xd (fun k b hb => by rw [hK]; exact sy.sub _ k b hb) (kp.kn x hx) tl F' H M Qw Q Sm kq h
  · cases ok
theorem fn_lvl {k : Nat} (sy : Says S nm Z T w mg base) (gd : AllGood S nm Z) (kp : AllKeep S nm Z) (B : Below S nm Z T P w mg base k) (B2 : 2 ≤ k → Below S nm Z T P w mg base (k - 2)) {x qual : Str} {d : Fd} {p : Wp} {a : Addr} {fd : FuncData} (g : d.Good nm) (kpd : Keeps (S.gam nm k d.lam) d p)
    (F : FunD T.K x qual d.args d.body d.scope [] [] a fd) (lm : LmOk T mg base d qual a) :
    FnOk P w T.K mg base (L2.CX P w) (k + 2) a fd d.ps (cP T p) := by
  have ok := g.ok
  unfold Fd.ok at ok
  simp only [Bool.and_eq_true, decide_eq_true_eq] at ok
  obtain ⟨⟨ok1, ok2⟩, ok3⟩ := ok
  have hl : d.ps.length = d.np := by unfold Fd.ps; rw [List.length_take]; omega
  have sc := C8.fnScope_by ok1
  obtain ⟨oc, od, dV, kV, doc, pm, an, cdv, ct, osl, hfd, lk, hcd, _, _⟩ := F.ex
  have lm' : d.lam = true → ∃ c Pt, cdv = .ref c ∧ LamX.TabB base mg c Pt ∧ (Pt, qual ++ ".<locals>." ++ "<lambda>") ∈ T.tabs ∧ ∀ p ∈ T.tabs, p.1 = Pt → p.2 = qual ++ ".<locals>." ++ "<lambda>" := fun h => by
    obtain ⟨c, Pt, h1, h2⟩ := lm h oc od fd osl lk
    rw [hfd] at h1
    exact ⟨c, Pt, h1, h2⟩
  subst hfd
  refine fn_of lk hcd sc (fun vs H Q E h => ?_) (fun A outer s H vs Q E hr h => ⟨cS T E (dSs (S.gam nm k d.lam) d.code), ?_, ?_⟩)
  · obtain ⟨F, ws, M, Qw, Ew, r, _, h, _⟩ := h
    rw [← r.length, (kpd _ _ _ _ h).1, hl]
  · have tk : Takes (cxOf (L2.CX P w) P w T.K mg base d.N qual d.scope a cdv A outer s H E) (outE E) := takes_of rfl rfl rfl rfl
    have pss : Passes (L2.CX P w) (cxOf (L2.CX P w) P w T.K mg base d.N qual d.scope a cdv A outer s H E) E := L2.passes_call tk fun _ _ _ _ h => h
    refine goodSs (S.gam nm k d.lam) nm T k d.code _ _ ⟨d.N, d.scope, fun _ => true, false⟩ d.body ⟨?_, passes_of rfl, fun _ => tk, fun _ => ⟨rfl, rfl⟩⟩ ⟨rfl, rfl, fun _ _ => rfl, fun _ => rfl⟩ ok3
    refine fx_top sy ⟨rfl, rfl, rfl, rfl, rfl, rfl, rfl, rfl⟩ rfl rfl rfl sc.nd (by have := hr.un; show (A.deeper (envOfC qual d.scope s.heap.objs.size a cdv)).units + 65 < cLine; omega) (fun _ => hr) sc.kind pss (fun _ f x hx => ?_) (fun _ c x hx => ?_) (fun _ m c p hp => ?_) fun _ h2 => ?_
    · obtain ⟨a, fd, q, h1, h2, h3⟩ := sy.fn f x hx
      exact ⟨a, fd, _, h1, h2.kp, bnd_of (gd.fn f x hx) h2, B.fn f x hx a fd q h2 h3⟩
    · obtain ⟨h0, a, fd, q, h1, h2, h3⟩ := sy.ini c x hx
      exact ⟨h0, a, fd, _, h1, bnd_of (gd.ini c x hx) h2, B.ini c x hx a fd q h2 h3⟩
    · have hp : (S.me c m).map (fun p => dn p k) = some p := hp
      cases e : S.me c m with
      | none => rw [e] at hp; cases hp
      | some p0 =>
        rw [e] at hp
        cases hp
        obtain ⟨a, fd, q, h1, h2, h3⟩ := sy.me c m p0 e
        exact ⟨a, fd, _, h1, bnd_of (gd.me c m p0 e) h2, B.me c m p0 e a fd q h2 h3⟩
    · have h2 : (d.lam && decide (2 ≤ k)) = true := h2
      rw [Bool.and_eq_true, decide_eq_true_eq] at h2
      have C := B2 h2.2
      obtain ⟨c, Pt, e1, e2, e3, e4⟩ := lm' h2.1
      refine ⟨h2.2, fun f x hx => ?_, fun c x hx => ?_, fun m c p hp => ?_, ⟨c, Pt, e2, e1, e3, e4⟩, fun x hx X' q1 q2 q3 q4 q5 q6 => ki_of sy gd kp hx q2 q3 q4 q6⟩
      · obtain ⟨a, fd, q, h1, h2, h3⟩ := sy.fn f x hx
        exact ⟨a, fd, _, h1, h2.kp, bnd_of (gd.fn f x hx) h2, C.fn f x hx a fd q h2 h3⟩
      · obtain ⟨h0, a, fd, q, h1, h2, h3⟩ := sy.ini c x hx
        exact ⟨h0, a, fd, _, h1, bnd_of (gd.ini c x hx) h2, C.ini c x hx a fd q h2 h3⟩
      · have hp : (S.me c m).map (fun p => dn p (k - 2)) = some p := hp
        cases e : S.me c m with
        | none => rw [e] at hp; cases hp
        | some p0 =>
          rw [e] at hp
          cases hp
          obtain ⟨a, fd, q, h1, h2, h3⟩ := sy.me c m p0 e
          exact ⟨a, fd, _, h1, bnd_of (gd.me c m p0 e) h2, C.me c m p0 e a fd q h2 h3⟩
  · obtain ⟨F, ws, M, Qw, Ew, r, Sm, h, kq, kx⟩ := h
    obtain ⟨_, D, h1, h2, h3, h4, h5, h6⟩ := kpd _ _ _ _ h
    refine ⟨F, startW d.N ws, M, D, rs_start r, start_len r.length, Sm, h1, fun σ M' _ H' F' e _ _ S' q => ?_, fun w M' v H' F' e r' S' q => ?_, fun _ _ _ _ _ _ _ _ _ q => (h4 _ _ q).elim, fun _ _ _ _ _ _ _ _ _ q => (h5 _ _ q).elim, fun x M' cls dd H' F' e r' S' q => ?_⟩
    · obtain ⟨M2, s, q⟩ := h2 σ M' q
      exact kq _ _ _ _ _ e (RW.non_.mpr rfl) (S'.less s) q
    · obtain ⟨M2, s, q⟩ := h3 w M' q
      exact kq _ _ _ _ _ e r' (S'.less s) q
    · obtain ⟨M2, s, q⟩ := h6 x M' q
      exact kx x M2 _ _ _ _ e r' (S'.less s) q
theorem below (sy : Says S nm Z T w mg base) (gd : AllGood S nm Z) (kp : AllKeep S nm Z) : ∀ k, ∀ j, j ≤ k + 1 → Below S nm Z T P w mg base j
  | 0 => by
    have b0 : Below S nm Z T P w mg base 0 := ⟨fun _ _ _ _ _ _ _ _ => fn_no, fun _ _ _ _ _ _ _ _ => fn_no, fun _ _ _ _ _ _ _ _ _ => fn_no⟩
    intro j hj
    rcases (show j = 0 ∨ j = 1 by omega) with rfl | rfl
    · exact b0
    · exact ⟨fun f x h a fd q F l => fn_lvl sy gd kp b0 (fun h => absurd h (by omega)) (gd.fn f x h) (kp.fn f x h 0) F l, fun _ _ _ _ _ _ _ _ => fn_no, fun c m p h a fd q F l => fn_lvl sy gd kp b0 (fun h => absurd h (by omega)) (gd.me c m p h) (kp.me c m p h 0) F l⟩
  | k + 1 => by
    intro j hj
    have ih := below sy gd kp k
    by_cases hk : j ≤ k + 1
    · exact ih j hk
    · have : j = k + 2 := by omega
      subst this
      have b1 := ih (k + 1) (Nat.le_refl _)
      have b0 := ih k (by omega)
      exact ⟨fun f x h a fd q F l => fn_lvl sy gd kp b1 (fun _ => ih (k + 1 - 2) (by omega)) (gd.fn f x h) (kp.fn f x h (k + 1)) F l, fun c x h a fd q F l => fn_lvl sy gd kp b0 (fun _ => ih (k - 2) (by omega)) (gd.ini c x h) (kp.ini c x h k) F l,
        fun c m p h a fd q F l => fn_lvl sy gd kp b1 (fun _ => ih (k + 1 - 2) (by omega)) (gd.me c m p h) (kp.me c m p h (k + 1)) F l⟩
theorem fn_all (sy : Says S nm Z T w mg base) (gd : AllGood S nm Z) (kp : AllKeep S nm Z) {f : Nat} {x qual : Str} (hx : nm.fn f = some x) {a : Addr} {fd : FuncData} (F : FunD T.K x qual (Z.fn f).args (Z.fn f).body (Z.fn f).scope [] [] a fd) (l : LmOk T mg base (Z.fn f) qual a) (k : Nat) :
    FnOk P w T.K mg base (L2.CX P w) (k + 2) a fd (Z.fn f).ps (cP T (S.fn f k)) := (below sy gd kp k (k + 1) (Nat.le_refl _)).fn f x hx a fd qual F l
end
end WL
namespace WL
open PySem L2
variable {M : Mh} {Q : QW}
def PlW (n : Nat) (w : W) : Prop := ∃ d, dat w = some d ∧ d.canLay0 = true ∧ d.depth ≤ n
def PlWs (n : Nat) (ws : List W) : Prop := ∀ w ∈ ws, PlW n w
theorem PlW.mono {n m : Nat} {w : W} (h : PlW n w) (hm : n ≤ m) : PlW m w := by
  obtain ⟨d, h1, h2, h3⟩ := h
  exact ⟨d, h1, h2, Nat.le_trans h3 hm⟩
theorem pl_non {n : Nat} : PlW n .non := ⟨_, rfl, by simp [PyData.canLay0], by simp [PyData.depth]⟩
theorem pl_bl {n : Nat} {b : Bool} : PlW n (.bl b) := ⟨_, rfl, by simp [PyData.canLay0], by simp [PyData.depth]⟩
theorem pl_int {n : Nat} {b : Int} : PlW n (.int b) := ⟨_, rfl, by simp [PyData.canLay0], by simp [PyData.depth]⟩
theorem pl_str {n : Nat} {b : Str} (h : PyData.strOk b = true) : PlW n (.str b) := ⟨_, rfl, by simpa [PyData.canLay0] using h, by simp [PyData.depth]⟩
theorem pl_ws {n : Nat} : ∀ {ws : List W}, PlWs n ws → ∃ ds, dats ws = some ds ∧ PyData.canLayAll0 ds = true ∧ PyData.depthAll ds ≤ n
  | [], _ => ⟨[], rfl, by simp [PyData.canLayAll0], by simp [PyData.depthAll]⟩
  | w :: ws, h => by
    obtain ⟨d, h1, h2, h3⟩ := h w (by simp)
    obtain ⟨ds, h4, h5, h6⟩ := pl_ws fun x hx => h x (List.mem_cons_of_mem _ hx)
    refine ⟨d :: ds, by simp [dats, h1, h4], by simp [PyData.canLayAll0, h2, h5], ?_⟩
    simp only [PyData.depthAll]
    omega
theorem pl_tup {n : Nat} {ws : List W} (h : PlWs n ws) : PlW (n + 1) (.tup ws) := by
  obtain ⟨ds, h1, h2, h3⟩ := pl_ws h
  exact ⟨.tuple ds, by simp [dat, h1], by simpa [PyData.canLay0] using h2, by simpa [PyData.depth] using h3⟩
theorem pl_lst {n : Nat} {ws : List W} (h : PlWs n ws) : PlW (n + 1) (.lst ws) := by
  obtain ⟨ds, h1, h2, h3⟩ := pl_ws h
  exact ⟨.list ds, by simp [dat, h1], by simpa [PyData.canLay0] using h2, by simpa [PyData.depth] using h3⟩
theorem pl_scr {n : Nat} {ws : List W} (h : PlWs n ws) : PlW (n + 1) (.scr ws) := by
  obtain ⟨ds, h1, h2, h3⟩ := pl_ws h
  exact ⟨.list ds, by simp [dat, h1], by simpa [PyData.canLay0] using h2, by simpa [PyData.depth] using h3⟩
theorem pls_nil {n : Nat} : PlWs n [] := fun _ h => by simp at h
theorem pls_cons {n : Nat} {w : W} {ws : List W} (h : PlW n w) (hs : PlWs n ws) : PlWs n (w :: ws) := fun x hx => by
  rcases List.mem_cons.mp hx with rfl | hx
  · exact h
  · exact hs x hx
def eqB (x y : W) : Bool := match dat x, dat y with
  | some d, some e => PyData.eqv d e
  | _, _ => false
theorem PlW.shaped {w : W} {d : PyData} (h : PlW 64 w) (e : dat w = some d) : SeqAt.shaped d = true := by
  obtain ⟨d', h1, h2, h3⟩ := h
  rw [e] at h1
  cases h1
  unfold SeqAt.shaped
  rw [h2, decide_eq_true h3]
  rfl
theorem eqW_fall {x y : W} {b : Bool} (hx : PlW 64 x) (hy : PlW 64 y) (mx : datM M x = dat x) (my : datM M y = dat y) : (∃ d e, datM M x = some d ∧ datM M y = some e ∧ SeqAt.shaped d = true ∧ SeqAt.shaped e = true ∧ b = PyData.eqv d e) ↔ b = eqB x y := by
  have hx' := hx
  have hy' := hy
  obtain ⟨d, h1, h2, h3⟩ := hx
  obtain ⟨e, h4, h5, h6⟩ := hy
  constructor
  · rintro ⟨d', e', q1, q2, _, _, q3⟩
    rw [mx, h1] at q1
    rw [my, h4] at q2
    cases q1
    cases q2
    unfold eqB
    rw [h1, h4]
    exact q3
  · intro q
    refine ⟨d, e, by rw [mx, h1], by rw [my, h4], hx'.shaped h1, hy'.shaped h4, ?_⟩
    rw [q]
    unfold eqB
    rw [h1, h4]
theorem eqv_of {x y : W} {b : Bool} (h : ∀ c, eqW M x y c ↔ c = b) : eqV_ x y M Q = Q (.bl b) M := by
  unfold eqV_
  simp [h]
theorem nev_of {x y : W} {b : Bool} (h : ∀ c, eqW M x y c ↔ c = b) : neV_ x y M Q = Q (.bl (!b)) M := by
  unfold neV_
  simp [h]
theorem eq_int {i j : Int} : eqV_ (.int i) (.int j) M Q = Q (.bl (decide (i = j))) M := eqv_of fun c => Iff.rfl
theorem eq_str {i j : Str} : eqV_ (.str i) (.str j) M Q = Q (.bl (decide (i = j))) M := eqv_of fun c => Iff.rfl
theorem eq_bl {i j : Bool} : eqV_ (.bl i) (.bl j) M Q = Q (.bl (decide (i = j))) M := eqv_of fun c => Iff.rfl
theorem ne_int {i j : Int} : neV_ (.int i) (.int j) M Q = Q (.bl (!decide (i = j))) M := nev_of fun c => Iff.rfl
theorem ne_str {i j : Str} : neV_ (.str i) (.str j) M Q = Q (.bl (!decide (i = j))) M := nev_of fun c => Iff.rfl
theorem ne_bl {i j : Bool} : neV_ (.bl i) (.bl j) M Q = Q (.bl (!decide (i = j))) M := nev_of fun c => Iff.rfl
theorem eq_tup {a b : List W} (h : PlW 64 (.tup a)) (h' : PlW 64 (.tup b)) : eqV_ (.tup a) (.tup b) M Q = Q (.bl (eqB (.tup a) (.tup b))) M := eqv_of fun c => eqW_fall h h' rfl rfl
theorem ne_tup {a b : List W} (h : PlW 64 (.tup a)) (h' : PlW 64 (.tup b)) : neV_ (.tup a) (.tup b) M Q = Q (.bl (!eqB (.tup a) (.tup b))) M := nev_of fun c => eqW_fall h h' rfl rfl
theorem eq_lst {a b : List W} (h : PlW 64 (.lst a)) (h' : PlW 64 (.lst b)) : eqV_ (.lst a) (.lst b) M Q = Q (.bl (eqB (.lst a) (.lst b))) M := eqv_of fun c => eqW_fall h h' rfl rfl
theorem ne_lst {a b : List W} (h : PlW 64 (.lst a)) (h' : PlW 64 (.lst b)) : neV_ (.lst a) (.lst b) M Q = Q (.bl (!eqB (.lst a) (.lst b))) M := nev_of fun c => eqW_fall h h' rfl rfl
theorem dats_cons {w : W} {ws : List W} {ds : List PyData} (h : dats (w :: ws) = some ds) : ∃ d es, ds = d :: es := by
  simp only [dats] at h
  split at h
  · cases h; exact ⟨_, _, rfl⟩
  · cases h
theorem eqB_nilT {a : List W} : eqB (.tup a) (.tup []) = decide (a = [] ∧ True) := by
  cases a with
  | nil => rfl
  | cons w ws =>
    unfold eqB
    simp only [dat]
    cases e : dats (w :: ws) with
    | none => simp
    | some ds =>
      obtain ⟨d, es, rfl⟩ := dats_cons e
      simp [dats, PyData.eqv, PyData.eqvAll]
theorem eqB_nilL {a : List W} : eqB (.lst a) (.lst []) = decide (a = [] ∧ True) := by
  cases a with
  | nil => rfl
  | cons w ws =>
    unfold eqB
    simp only [dat]
    cases e : dats (w :: ws) with
    | none => simp
    | some ds =>
      obtain ⟨d, es, rfl⟩ := dats_cons e
      simp [dats, PyData.eqv, PyData.eqvAll]
theorem eqB_refl {n : Nat} {x : W} (h : PlW n x) : eqB x x = true := by
  obtain ⟨d, h1, h2, _⟩ := h
  unfold eqB
  rw [h1]
  exact SeqAt.eqv_refl d h2
theorem pl_nilT {n : Nat} : PlW (n + 1) (.tup []) := pl_tup pls_nil
theorem pl_nilL {n : Nat} : PlW (n + 1) (.lst []) := pl_lst pls_nil
theorem eq_tup0 {a : List W} (h : PlW 64 (.tup a)) : eqV_ (.tup a) (.tup []) M Q = Q (.bl (decide (a = []))) M := by rw [eq_tup h pl_nilT, eqB_nilT]; simp
theorem ne_tup0 {a : List W} (h : PlW 64 (.tup a)) : neV_ (.tup a) (.tup []) M Q = Q (.bl (!decide (a = []))) M := by rw [ne_tup h pl_nilT, eqB_nilT]; simp
theorem eq_lst0 {a : List W} (h : PlW 64 (.lst a)) : eqV_ (.lst a) (.lst []) M Q = Q (.bl (decide (a = []))) M := by rw [eq_lst h pl_nilL, eqB_nilL]; simp
theorem ne_lst0 {a : List W} (h : PlW 64 (.lst a)) : neV_ (.lst a) (.lst []) M Q = Q (.bl (!decide (a = []))) M := by rw [ne_lst h pl_nilL, eqB_nilL]; simp
theorem eq_nilL : eqV_ (.lst []) (.lst []) M Q = Q (.bl true) M := by rw [eq_lst0 pl_nilL]; rfl
theorem eqW_ref {a : Addr} {ws us : List W} {b : Bool} (hM : M a = some (.lst ws)) (h : PlW 64 (.lst ws)) (h' : PlW 64 (.lst us)) : eqW M (.ref a) (.lst us) b ↔ b = eqB (.lst ws) (.lst us) := by
  have : datM M (.ref a) = datM M (.lst ws) := by simp [datM, hM, dat]
  rw [← eqW_fall h h' (M := M) rfl rfl, ← this]
  exact Iff.rfl
theorem ne_ref0 {a : Addr} {ws : List W} (hM : M a = some (.lst ws)) (h : PlW 64 (.lst ws)) : neV_ (.ref a) (.lst []) M Q = Q (.bl (!decide (ws = []))) M := by
  rw [nev_of fun c => eqW_ref hM h pl_nilL, eqB_nilL]; simp
theorem eq_ref0 {a : Addr} {ws : List W} (hM : M a = some (.lst ws)) (h : PlW 64 (.lst ws)) : eqV_ (.ref a) (.lst []) M Q = Q (.bl (decide (ws = []))) M := by
  rw [eqv_of fun c => eqW_ref hM h pl_nilL, eqB_nilL]; simp
theorem ty_non : tyW M .non = some .non := rfl
theorem ty_bl {b : Bool} : tyW M (.bl b) = some .bl := rfl
theorem ty_int {b : Int} : tyW M (.int b) = some .int := rfl
theorem ty_str {b : Str} : tyW M (.str b) = some .str := rfl
theorem ty_tup {b : List W} : tyW M (.tup b) = some .tup := rfl
theorem ty_lst {b : List W} : tyW M (.lst b) = some .lst := rfl
theorem ty_scr {b : List W} : tyW M (.scr b) = none := rfl
theorem ty_dk {ks : List Key} {b : List W} : tyW M (.dk ks b) = some .dct := rfl
theorem tr_bl {c b : Bool} : truW M (.bl c) b = (b = c) := rfl
theorem tr_non {b : Bool} : truW M .non b = (b = false) := rfl
theorem tr_int {i : Int} {b : Bool} : truW M (.int i) b = (b = (i != 0)) := rfl
theorem tr_str {y : Str} {b : Bool} : truW M (.str y) b = (y.length ≤ sizeLine ∧ b = ((y.length : Int) != 0)) := rfl
theorem at0 {w : W} {ws : List W} : atI (w :: ws) 0 = some w := by simp [atI, ixN]
theorem at1 {w v : W} {ws : List W} : atI (w :: v :: ws) 1 = some v := by
  have : ((1 : Int)) < (ws.length : Int) + 1 + 1 := by omega
  simp [atI, ixN, this]
theorem at2 {w v u : W} {ws : List W} : atI (w :: v :: u :: ws) 2 = some u := by
  have : ((2 : Int)) < (ws.length : Int) + 1 + 1 + 1 := by omega
  simp [atI, ixN, this]
theorem atN {ws : List W} {i : Nat} {w : W} (h : ws[i]? = some w) : atI ws (i : Int) = some w := by
  have hi : i < ws.length := (List.getElem?_eq_some_iff.mp h).1
  have e : ws[i] = w := by rw [List.getElem?_eq_getElem hi] at h; exact Option.some.inj h
  simp [atI, ixN, hi, e]
theorem cut1 {w : W} {ws : List W} : cutW (w :: ws) (some 1) none = ws := by
  unfold cutW HT.sIx
  simp
theorem len0 : (0 : Nat) ≤ sizeLine := Nat.zero_le _
theorem szl {n : Nat} (h : n ≤ 1000000) : n ≤ sizeLine := Nat.le_trans h (by decide)
theorem ints_eq {f : Int → Int → QW → Mh → Prop} {i j : Int} : intsW f (.int i) (.int j) M Q = f i j Q M := rfl
theorem add_int {o : Bool} {i j : Int} : addW o (.int i) (.int j) M Q = Q (.int (i + j)) M := rfl
theorem add_str {o : Bool} {i j : Str} : addW o (.str i) (.str j) M Q = (i.length + j.length ≤ sizeLine ∧ Q (.str (i ++ j)) M) := rfl
theorem add_tup {o : Bool} {i j : List W} : addW o (.tup i) (.tup j) M Q = (i.length + j.length ≤ sizeLine ∧ Q (.tup (i ++ j)) M) := rfl
theorem add_lst {o : Bool} {i j : List W} : addW o (.lst i) (.lst j) M Q = (i.length + j.length ≤ sizeLine ∧ newL o (i ++ j) M Q) := by
  unfold addW
  simp [lv_lst]
theorem mul_int {o : Bool} {i j : Int} : mulW o (.int i) (.int j) M Q = (CMul i j ∧ Q (.int (i * j)) M) := rfl
theorem mul_tup {o : Bool} {a : List W} {k : Int} : mulW o (.tup a) (.int k) M Q = (a ≠ [] ∧ 0 ≤ k ∧ k ≤ 1000 ∧ a.length ≤ 1000 ∧ Q (.tup (List.replicate k.toNat a).flatten) M) := rfl
theorem mul_lst {o : Bool} {a : List W} {k : Int} : mulW o (.lst a) (.int k) M Q = (-(2 ^ 63) ≤ k ∧ k < 2 ^ 63 ∧ a.length * k.toNat ≤ sizeLine ∧ newL o (List.replicate k.toNat a).flatten M Q) := by
  show (∃ b, lv M (.lst a) = some b ∧ _) = _
  simp [lv_lst]
theorem idx_tup {ws : List W} {i : Int} : idxW (.tup ws) (.int i) M Q = ∃ w, atI ws i = some w ∧ Q w M := by
  show (∃ us w, sv M (.tup ws) = some us ∧ _) = _
  simp [sv_tup]
theorem idx_lst {ws : List W} {i : Int} : idxW (.lst ws) (.int i) M Q = ∃ w, atI ws i = some w ∧ Q w M := by
  show (∃ us w, sv M (.lst ws) = some us ∧ _) = _
  simp [sv_lst]
theorem idx_scr {ws : List W} {i : Int} : idxW (.scr ws) (.int i) M Q = ∃ w, atI ws i = some w ∧ Q w M := by
  show (∃ us w, sv M (.scr ws) = some us ∧ _) = _
  simp [sv_scr]
theorem idx_ref {a : Addr} {ws : List W} {i : Int} (h : M a = some (.lst ws)) : idxW (.ref a) (.int i) M Q = ∃ w, atI ws i = some w ∧ Q w M := by
  show (∃ us w, sv M (.ref a) = some us ∧ _) = _
  simp [sv_ref h]
theorem idx_str {z : Str} {i : Int} : idxW (.str z) (.int i) M Q = ∃ c, z.length ≤ sizeLine ∧ atI z.cps.toList i = some c ∧ Q (.str ⟨#[c]⟩) M := rfl
theorem len_tup {ws : List W} : lenW (.tup ws) M Q = Q (.int ws.length) M := by
  show (∃ us, sv M (.tup ws) = some us ∧ _) = _
  simp [sv_tup]
theorem len_lst {ws : List W} : lenW (.lst ws) M Q = Q (.int ws.length) M := by
  show (∃ us, sv M (.lst ws) = some us ∧ _) = _
  simp [sv_lst]
theorem len_scr {ws : List W} : lenW (.scr ws) M Q = Q (.int ws.length) M := by
  show (∃ us, sv M (.scr ws) = some us ∧ _) = _
  simp [sv_scr]
theorem len_ref {a : Addr} {ws : List W} (h : M a = some (.lst ws)) : lenW (.ref a) M Q = Q (.int ws.length) M := by
  show (∃ us, sv M (.ref a) = some us ∧ _) = _
  simp [sv_ref h]
theorem len_str {z : Str} : lenW (.str z) M Q = (z.length ≤ sizeLine ∧ Q (.int z.length) M) := rfl
theorem sl_tup {o : Bool} {ws : List W} {l h : Option Int} : sliceW o (.tup ws) l h M Q = Q (.tup (cutW ws l h)) M := rfl
theorem sl_lst {o : Bool} {ws : List W} {l h : Option Int} : sliceW o (.lst ws) l h M Q = newL o (cutW ws l h) M Q := rfl
theorem neg_int {i : Int} : negW (.int i) M Q = Q (.int (-i)) M := rfl
theorem str_int {i : Int} : strW (.int i) M Q = (i.natAbs.log2 < 1920 ∧ Q (.str (toString i)) M) := rfl
theorem str_str {i : Str} : strW (.str i) M Q = Q (.str i) M := rfl
theorem int_int {i : Int} : intW (.int i) M Q = Q (.int i) M := rfl
theorem int_bl {b : Bool} : intW (.bl b) M Q = Q (.int (if b then 1 else 0)) M := rfl
theorem is_non {n : Bool} : isW n .non .non M Q = Q (.bl !n) M := by cases n <;> rfl
theorem is_int {n : Bool} {i : Int} : isW n (.int i) .non M Q = Q (.bl n) M := by cases n <;> rfl
theorem is_str {n : Bool} {i : Str} : isW n (.str i) .non M Q = Q (.bl n) M := by cases n <;> rfl
theorem is_tup {n : Bool} {i : List W} : isW n (.tup i) .non M Q = Q (.bl n) M := by cases n <;> rfl
theorem is_lst {n : Bool} {i : List W} : isW n (.lst i) .non M Q = Q (.bl n) M := by cases n <;> rfl
theorem is_bl {n : Bool} {i : Bool} : isW n (.bl i) .non M Q = Q (.bl n) M := by cases n <;> rfl
theorem is_bb {n a b : Bool} : isW n (.bl a) (.bl b) M Q = Q (.bl (if n then !decide (a = b) else decide (a = b))) M := rfl
theorem frz_ref {a : Addr} {ws : List W} (h : M a = some (.lst ws)) : frzW (.ref a) M Q = Q (.lst ws) (mdel M a) := by
  show (∃ o', M a = some o' ∧ notLk o' = true ∧ _) = _
  simp [h, notLk, frzO]
theorem dss_cons {Γ : Gam} {s : Sc} {ss : Ss} {D : Dw} {σ : Sw} {M : Mh} : dSs Γ (.cons s ss) D σ M = dSc Γ s { D with nx := dSs Γ ss D } σ M := rfl
theorem ss_nil {Γ : Gam} {D : Dw} {σ : Sw} {M : Mh} : dSs Γ .nil D σ M = D.nx σ M := rfl
theorem for_nil {G : Mh → Prop} {g : Tg} {b : DS} {D : Dw} {σ : Sw} {M : Mh} : forW G g b [] D σ M = D.nx σ M := rfl
theorem for_cons {G : Mh → Prop} {g : Tg} {b : DS} {x : W} {xs : List W} {D : Dw} {σ : Sw} {M : Mh} : forW G g b (x :: xs) D σ M = ∃ σ', g.asg x σ = some σ' ∧
    b { nx := fun σ2 M2 => G M2 ∧ forW G g b xs D σ2 M2, rt := D.rt, bk := D.nx, ct := fun σ2 M2 => G M2 ∧ forW G g b xs D σ2 M2, ex := D.ex } σ' M := rfl
theorem pairs_cons {a b : W} {as bs : List W} : pairs (a :: as) (b :: bs) = .tup [a, b] :: pairs as bs := rfl
theorem pairs_nil {as : List W} : pairs as [] = [] := by cases as <;> rfl
theorem pairs_nil' {as : List W} : pairs [] as = [] := rfl
theorem walk_lst {ws us : List W} {G : Mh → Prop} : walkW M (.lst ws) us G = (us = ws ∧ G = fun _ => True) := rfl
theorem walk_scr {ws us : List W} {G : Mh → Prop} : walkW M (.scr ws) us G = (us = ws ∧ G = fun _ => True) := rfl
theorem walk_tup {ws us : List W} {G : Mh → Prop} : walkW M (.tup ws) us G = (us = ws ∧ G = fun _ => True) := rfl
theorem walk_str {z : Str} {us : List W} {G : Mh → Prop} : walkW M (.str z) us G = (us = signs z ∧ G = fun _ => True) := rfl
theorem walk_ref {a : Addr} {us : List W} {G : Mh → Prop} : walkW M (.ref a) us G = (M a = some (.lst us) ∧ G = fun M => M a = some (.lst us)) := rfl
theorem lc_pure {own : Bool} {G : Mh → Prop} {g : Tg} {tt : DT} {te : DE} {D : Addr} {σ : Sw} {M : Mh} {Q : QW} (c : W → Bool) (f : W → W) (hM : M D = none) (hG : ∀ acc, G (mup M D (.lst acc))) :
    ∀ (xs acc : List W), (∀ x ∈ xs, ∀ us, ∃ σ', g.asg x σ = some σ' ∧ ∀ R : Bool → Mh → Prop, R (c x) (mup M D (.lst us)) → tt σ' (mup M D (.lst us)) R noX) →
    (∀ x ∈ xs, ∀ us σ', g.asg x σ = some σ' → c x = true → ∀ R : QW, R (f x) (mup M D (.lst us)) → te σ' (mup M D (.lst us)) R noX) →
    finL own D (acc ++ (xs.filter c).map f) (mup M D (.lst (acc ++ (xs.filter c).map f))) Q → lcW own G g tt te D σ xs acc (mup M D (.lst acc)) Q
  | [], acc, _, _, q => by
    rw [List.filter_nil, List.map_nil, List.append_nil] at q
    exact q
  | x :: xs, acc, h1, h2, q => by
    have self : ∀ us, (mup M D (.lst us)) D = some (.lst us) := fun us => by simp [mup]
    have mm : ∀ us vs, mup (mup M D (.lst us)) D (.lst vs) = mup M D (.lst vs) := fun us vs => by funext b; unfold mup; split <;> rfl
    obtain ⟨σ', e, k⟩ := h1 x (by simp) acc
    refine ⟨σ', e, k _ ⟨self _, hG _, ?_⟩⟩
    cases hc : c x with
    | false =>
      rw [if_neg (by simp)]
      refine lc_pure c f hM hG xs acc (fun y hy => h1 y (List.mem_cons_of_mem _ hy)) (fun y hy => h2 y (List.mem_cons_of_mem _ hy)) ?_
      simpa [List.filter_cons, hc] using q
    | true =>
      rw [if_pos rfl]
      refine h2 x (by simp) acc σ' e hc _ ⟨self _, by rw [mm]; exact hG _, ?_⟩
      rw [mm]
      refine lc_pure c f hM hG xs (acc ++ [f x]) (fun y hy => h1 y (List.mem_cons_of_mem _ hy)) (fun y hy => h2 y (List.mem_cons_of_mem _ hy)) ?_
      simpa [List.filter_cons, hc] using q
theorem lc_pairs {own : Bool} {G : Mh → Prop} {g : Tg} {tt : DT} {te : DE} {D : Addr} {σ : Sw} {M : Mh} {Q : QW} (hM : M D = none) (hG : ∀ acc, G (mup M D (.lst acc))) :
    ∀ (ps : List (W × Option W)) (acc : List W), (∀ p ∈ ps, ∀ us, ∃ σ', g.asg p.1 σ = some σ' ∧ (∀ R : Bool → Mh → Prop, R p.2.isSome (mup M D (.lst us)) → tt σ' (mup M D (.lst us)) R noX) ∧
      ∀ y, p.2 = some y → ∀ R : QW, R y (mup M D (.lst us)) → te σ' (mup M D (.lst us)) R noX) →
    finL own D (acc ++ ps.filterMap (·.2)) (mup M D (.lst (acc ++ ps.filterMap (·.2)))) Q → lcW own G g tt te D σ (ps.map (·.1)) acc (mup M D (.lst acc)) Q
  | [], acc, _, q => by
    rw [List.filterMap_nil, List.append_nil] at q
    exact q
  | p :: ps, acc, h, q => by
    have self : ∀ us, (mup M D (.lst us)) D = some (.lst us) := fun us => by simp [mup]
    have mm : ∀ us vs, mup (mup M D (.lst us)) D (.lst vs) = mup M D (.lst vs) := fun us vs => by funext b; unfold mup; split <;> rfl
    obtain ⟨σ', e, k1, k2⟩ := h p (by simp) acc
    refine ⟨σ', e, k1 _ ⟨self _, hG _, ?_⟩⟩
    cases hc : p.2 with
    | none =>
      rw [if_neg (by simp)]
      refine lc_pairs hM hG ps acc (fun y hy => h y (List.mem_cons_of_mem _ hy)) ?_
      rw [List.filterMap_cons, hc] at q
      exact q
    | some y =>
      rw [if_pos (by simp)]
      refine k2 y hc _ ⟨self _, by rw [mm]; exact hG _, ?_⟩
      rw [mm]
      refine lc_pairs hM hG ps (acc ++ [y]) (fun y hy => h y (List.mem_cons_of_mem _ hy)) ?_
      rw [List.filterMap_cons, hc] at q
      simpa using q
theorem lc_of {G : Mh → Prop} {g : Tg} {tt : DT} {te : DE} {σ : Sw} {M : Mh} {Q : QW} {xs : List W} (ps : List (W × Option W)) (hx : xs = ps.map (·.1)) (hG : ∀ D acc, M D = none → G (mup M D (.lst acc)))
    (h : ∀ D, M D = none → ∀ p ∈ ps, ∀ us, ∃ σ', g.asg p.1 σ = some σ' ∧ (∀ R : Bool → Mh → Prop, R p.2.isSome (mup M D (.lst us)) → tt σ' (mup M D (.lst us)) R noX) ∧
      ∀ y, p.2 = some y → ∀ R : QW, R y (mup M D (.lst us)) → te σ' (mup M D (.lst us)) R noX) (q : Q (.lst (ps.filterMap (·.2))) M) :
    ∀ D, M D = none → lcW false G g tt te D σ xs [] (mup M D (.lst [])) Q := fun D hD => by
  subst hx
  refine lc_pairs hD (fun acc => hG D acc hD) ps [] (h D hD) ?_
  rw [List.nil_append]
  exact ⟨by simp [mup], by rw [mdel_mup hD]; exact q⟩
theorem fin_pure {D : Addr} {ws : List W} {M : Mh} {Q : QW} (hM : M D = none) (q : Q (.lst ws) M) : finL false D ws (mup M D (.lst ws)) Q := ⟨by simp [mup], by rw [mdel_mup hM]; exact q⟩
theorem for_inv {G : Mh → Prop} {g : Tg} {b : DS} {D : Dw} (I : Nat → Sw → Mh → Prop) (hG : ∀ i σ M, I i σ M → G M) : ∀ (xs : List W) (j : Nat) {σ : Sw} {M : Mh}, I j σ M →
    (∀ i x σ M (K : QS), xs[i]? = some x → I (j + i) σ M → (∀ σ2 M2, I (j + i + 1) σ2 M2 → K σ2 M2) → ∃ σ', g.asg x σ = some σ' ∧ b { nx := K, rt := D.rt, bk := D.nx, ct := K, ex := D.ex } σ' M) →
    (∀ σ M, I (j + xs.length) σ M → D.nx σ M) → forW G g b xs D σ M
  | [], j, σ, M, h0, _, he => he σ M h0
  | x :: xs, j, σ, M, h0, hs, he => by
    have ih : ∀ σ2 M2, I (j + 0 + 1) σ2 M2 → G M2 ∧ forW G g b xs D σ2 M2 := fun σ2 M2 h => by
      refine ⟨hG _ _ _ h, for_inv I hG xs (j + 1) h (fun i y σ M K e h k => ?_) (fun σ M h => he σ M ?_)⟩
      · have e1 : j + 1 + i = j + (i + 1) := by omega
        have e2 : j + 1 + i + 1 = j + (i + 1) + 1 := by omega
        rw [e1] at h
        rw [e2] at k
        exact hs (i + 1) y σ M K (by simpa using e) h k
      · have e1 : j + 1 + xs.length = j + (x :: xs).length := by rw [List.length_cons]; omega
        rw [e1] at h
        exact h
    exact hs 0 x σ M _ rfl h0 ih
theorem rangeL_len {n : Nat} : (rangeL 0 n).length = n := by simp [rangeL]
theorem rangeL_get {n i : Nat} {x : W} (h : (rangeL 0 n)[i]? = some x) : x = .int i ∧ i < n := by
  unfold rangeL at h
  rw [List.getElem?_map] at h
  by_cases hi : i < n
  · rw [List.getElem?_range (by simpa using hi)] at h
    simp at h
    exact ⟨h.symm, hi⟩
  · rw [List.getElem?_eq_none (by simpa using Nat.le_of_not_lt hi)] at h
    cases h
theorem for_range {b : DS} {D : Dw} {s n : Nat} {σ : Sw} {M : Mh} (I : Nat → Sw → Mh → Prop) (h0 : I 0 σ M)
    (hs : ∀ i σ M (K : QS), i < n → I i σ M → (∀ σ2 M2, I (i + 1) σ2 M2 → K σ2 M2) → b { nx := K, rt := D.rt, bk := D.nx, ct := K, ex := D.ex } (σ.set s (some (.int i))) M)
    (he : ∀ σ M, I n σ M → D.nx σ M) : forW (fun _ => True) (.name s) b (rangeL 0 n) D σ M := by
  refine for_inv I (fun _ _ _ _ => trivial) _ 0 h0 (fun i x σ M K e h k => ?_) (fun σ M h => he σ M ?_)
  · obtain ⟨rfl, hi⟩ := rangeL_get e
    rw [Nat.zero_add] at h k
    exact ⟨_, rfl, hs i σ M K hi h k⟩
  · rw [Nat.zero_add, rangeL_len] at h
    exact h
theorem isx_eq {a : Addr} {x : Xn} {r : Nat → Option Bool} {i : Nat} {σ : Sw} {M : Mh} {Q : QW} {Ex : QX} : dIsx (some (a, x)) r i σ M Q Ex = (σ[i]? = some (some (.ref a)) ∧ ∃ b, r x.cls = some b ∧ Q (.bl b) M) :=
  propext ⟨fun ⟨a', x', b, h1, h2, h3, h4⟩ => by cases h1; exact ⟨h2, b, h3, h4⟩, fun ⟨h2, b, h3, h4⟩ => ⟨a, x, b, rfl, h2, h3, h4⟩⟩
theorem xfl_eq {a : Addr} {x : Xn} {xf : Nat → Str → Bool} {i : Nat} {f : Str} {σ : Sw} {M : Mh} {Q : QW} {Ex : QX} : dXfl (some (a, x)) xf i f σ M Q Ex = (σ[i]? = some (some (.ref a)) ∧ xf x.cls f = true ∧ ∃ w, x.fs.lookup f = some w ∧ Q w M) :=
  propext ⟨fun ⟨a', x', w, h1, h2, h3, h4, h5⟩ => by cases h1; exact ⟨h2, h3, w, h4, h5⟩, fun ⟨h2, h3, w, h4, h5⟩ => ⟨a, x, w, rfl, h2, h3, h4, h5⟩⟩
theorem held_xn {Γ : Gam} {a : Addr} {x : Xn} : (Γ.held a x).xn = some (a, x) := rfl
theorem held_isx {Γ : Gam} {a : Addr} {x : Xn} : (Γ.held a x).isx = Γ.isx := rfl
theorem held_xf {Γ : Gam} {a : Addr} {x : Xn} : (Γ.held a x).xf = Γ.xf := rfl
end WL
namespace WL
open PySem L2
local macro_rules | `(tactic| simp only [evs_, $xs,*]) => `(tactic| simp only [dX, dXs, dXo, dXi, dSc, d2, d1, dN, dVar, dC, dTup, dLst, dTru, dB, dChain, dIte, dNotV, dNotT, dJoinV, dJoinT, dNil, dCons, dCall, dBM, dIsi, dIsi2, dAttr, dMeth, dNew, dDget, dDin, dDnew, dKidx, dKin, dKget, dDisp, dFrz, dRev, dLrg, dSset, dSlice, dNoPart, dPart, dDfz, dRaise, dTry, dCatch, dKind, isx_eq, xfl_eq, dIsc, Gam.low, dAsg, dExpr, dRet, dIf, dFld, dSet, dDput, dNever, dFor, dNext, binP, cmpP, iSeqD, iRg1, iRg2, iZip, iEnumD, Tg.asg, setAll, List.set, List.map_cons, List.map_nil, subW, modW, fdivW, powW, ltW, leW, gtW, geW, newL, finD, frzO, tupW, listW, oneW, twoW, BI.w, ints_eq, add_int, add_str, add_tup, add_lst, mul_int, mul_lst, mul_tup, idx_tup, idx_lst, idx_scr, idx_str, len_tup, len_lst, len_scr, len_str, sl_tup, sl_lst, neg_int, str_int, str_str, int_int, int_bl, is_non, is_int, is_str, is_tup, is_lst, is_bl, is_bb, dss_cons, eq_int, eq_str, eq_bl, ne_int, ne_str, ne_bl, eq_nilL, ty_non, ty_bl, ty_int, ty_str, ty_tup, ty_lst, ty_scr, ty_dk, Ty.sub, tr_bl, tr_non, tr_int, tr_str, sv_lst, sv_tup, sv_scr, lv_lst, at0, at1, at2, cut1, len0, ss_nil, for_nil, for_cons, pairs_cons, pairs_nil, pairs_nil', walk_lst, walk_scr, walk_tup, walk_str, walk_ref, List.getElem?_cons_zero, List.getElem?_cons_succ, List.length_cons, List.length_nil, List.append_nil, List.cons_append, List.nil_append, Option.some.injEq, W.int.injEq, W.str.injEq, W.bl.injEq, W.tup.injEq, W.lst.injEq, W.ref.injEq, List.cons.injEq, Option.map_some, exists_and_left, exists_and_right, exists_eq_left, exists_eq_left', exists_eq, exists_eq', exists_eq_right, exists_eq_right', and_true, true_and, and_assoc, reduceIte, reduceCtorEq, decide_true, decide_false, decide_eq_true_eq, decide_eq_false_iff_not, Bool.not_eq_true', Bool.not_eq_false', Bool.true_eq_false, Bool.false_eq_true, if_true, if_false, Bool.not_true, Bool.not_false, ite_true, ite_false, Int.cast_ofNat_Int, Int.reduceAdd, Int.reduceSub, Int.reduceEq, Int.reduceLT, Int.reduceLE, Int.natCast_add, Nat.reduceEqDiff, Nat.reduceAdd, Nat.add_zero, Nat.zero_add, Nat.succ_ne_zero, not_true_eq_false, not_false_eq_true, Option.getD_some, Option.getD_none, Option.isSome_some, Option.isSome_none, $xs,*])
def ARMS : List (Str × W) := [("num", .str "n"), ("argument", .str ""), ("way", .str "f"), ("plus", .str "xx"), ("less", .str "xx"), ("times", .str "xx"), ("if", .str "xxx"), ("then", .str "xx"), ("say", .str "x"), ("call", .str "fx"), ("through", .str "xx")]
theorem tl_num : tlook ARMS "num" = some (.str "n") := rfl
theorem tl_argument : tlook ARMS "argument" = some (.str "") := rfl
theorem tl_way : tlook ARMS "way" = some (.str "f") := rfl
theorem tl_plus : tlook ARMS "plus" = some (.str "xx") := rfl
theorem tl_less : tlook ARMS "less" = some (.str "xx") := rfl
theorem tl_times : tlook ARMS "times" = some (.str "xx") := rfl
theorem tl_if : tlook ARMS "if" = some (.str "xxx") := rfl
theorem tl_then : tlook ARMS "then" = some (.str "xx") := rfl
theorem tl_say : tlook ARMS "say" = some (.str "x") := rfl
theorem tl_call : tlook ARMS "call" = some (.str "fx") := rfl
theorem tl_through : tlook ARMS "through" = some (.str "xx") := rfl
theorem sg_n : signs "n" = [.str "n"] := rfl
theorem sg_0 : signs "" = [] := rfl
theorem sg_f : signs "f" = [.str "f"] := rfl
theorem sg_xx : signs "xx" = [.str "x", .str "x"] := rfl
theorem sg_xxx : signs "xxx" = [.str "x", .str "x", .str "x"] := rfl
theorem sg_x : signs "x" = [.str "x"] := rfl
theorem sg_fx : signs "fx" = [.str "f", .str "x"] := rfl
theorem nx : (("n" : Str) = "x") = False := eq_false (by decide)
theorem fx : (("f" : Str) = "x") = False := eq_false (by decide)
theorem fn_ : (("f" : Str) = "n") = False := eq_false (by decide)
theorem ln_n : Str.length "n" = 1 := rfl
theorem ln_0 : Str.length "" = 0 := rfl
theorem ln_f : Str.length "f" = 1 := rfl
theorem ln_xx : Str.length "xx" = 2 := rfl
theorem ln_xxx : Str.length "xxx" = 3 := rfl
theorem ln_x : Str.length "x" = 1 := rfl
theorem ln_fx : Str.length "fx" = 2 := rfl
inductive Bd where
  | num (n : Nat) | arg | way (f : Nat) | plus (a b : Bd) | less (a b : Bd) | times (a b : Bd) | iff (a b c : Bd) | thn (a b : Bd) | say (a : Bd) | call (f : Nat) (a : Bd) | thr (a b : Bd)
def Bd.enc : Bd → W
  | .num n => .tup [.str "num", .int n]
  | .arg => .tup [.str "argument"]
  | .way f => .tup [.str "way", .int f]
  | .plus a b => .tup [.str "plus", a.enc, b.enc]
  | .less a b => .tup [.str "less", a.enc, b.enc]
  | .times a b => .tup [.str "times", a.enc, b.enc]
  | .iff a b c => .tup [.str "if", a.enc, b.enc, c.enc]
  | .thn a b => .tup [.str "then", a.enc, b.enc]
  | .say a => .tup [.str "say", a.enc]
  | .call f a => .tup [.str "call", .int f, a.enc]
  | .thr a b => .tup [.str "through", a.enc, b.enc]
def Bd.ok (m : Nat) : Bd → Prop
  | .num n => n ≤ 99
  | .arg => True
  | .way f => f < m
  | .plus a b => a.ok m ∧ b.ok m
  | .less a b => a.ok m ∧ b.ok m
  | .times a b => a.ok m ∧ b.ok m
  | .iff a b c => a.ok m ∧ b.ok m ∧ c.ok m
  | .thn a b => a.ok m ∧ b.ok m
  | .say a => a.ok m
  | .call f a => f < m ∧ a.ok m
  | .thr a b => a.ok m ∧ b.ok m
def Bd.ht : Bd → Nat
  | .plus a b => max a.ht b.ht + 1
  | .less a b => max a.ht b.ht + 1
  | .times a b => max a.ht b.ht + 1
  | .iff a b c => max a.ht (max b.ht c.ht) + 1
  | .thn a b => max a.ht b.ht + 1
  | .say a => a.ht + 1
  | .call _ a => a.ht + 1
  | .thr a b => max a.ht b.ht + 1
  | _ => 0
def Bd.cnt : Bd → Nat
  | .plus a b => 1 + a.cnt + b.cnt
  | .less a b => 1 + a.cnt + b.cnt
  | .times a b => 1 + a.cnt + b.cnt
  | .iff a b c => 1 + a.cnt + b.cnt + c.cnt
  | .thn a b => 1 + a.cnt + b.cnt
  | .say a => 1 + a.cnt
  | .call _ a => 1 + a.cnt
  | .thr a b => 1 + a.cnt + b.cnt
  | _ => 1
def Bd.ws : Bd → List W
  | .num n => [.str "num", .int n]
  | .arg => [.str "argument"]
  | .way f => [.str "way", .int f]
  | .plus a b => [.str "plus", a.enc, b.enc]
  | .less a b => [.str "less", a.enc, b.enc]
  | .times a b => [.str "times", a.enc, b.enc]
  | .iff a b c => [.str "if", a.enc, b.enc, c.enc]
  | .thn a b => [.str "then", a.enc, b.enc]
  | .say a => [.str "say", a.enc]
  | .call f a => [.str "call", .int f, a.enc]
  | .thr a b => [.str "through", a.enc, b.enc]
theorem Bd.enc_eq (b : Bd) : b.enc = .tup b.ws := by cases b <;> rfl
theorem Bd.pl : ∀ b : Bd, PlW (b.ht + 1) b.enc
  | .num n => pl_tup (pls_cons (pl_str (by decide +kernel)) (pls_cons pl_int pls_nil))
  | .arg => pl_tup (pls_cons (pl_str (by decide +kernel)) pls_nil)
  | .way f => pl_tup (pls_cons (pl_str (by decide +kernel)) (pls_cons pl_int pls_nil))
  | .plus a b => pl_tup (pls_cons (pl_str (by decide +kernel)) (pls_cons (a.pl.mono (by simp only [Bd.ht]; omega)) (pls_cons (b.pl.mono (by simp only [Bd.ht]; omega)) pls_nil)))
  | .less a b => pl_tup (pls_cons (pl_str (by decide +kernel)) (pls_cons (a.pl.mono (by simp only [Bd.ht]; omega)) (pls_cons (b.pl.mono (by simp only [Bd.ht]; omega)) pls_nil)))
  | .times a b => pl_tup (pls_cons (pl_str (by decide +kernel)) (pls_cons (a.pl.mono (by simp only [Bd.ht]; omega)) (pls_cons (b.pl.mono (by simp only [Bd.ht]; omega)) pls_nil)))
  | .iff a b c => pl_tup (pls_cons (pl_str (by decide +kernel)) (pls_cons (a.pl.mono (by simp only [Bd.ht]; omega)) (pls_cons (b.pl.mono (by simp only [Bd.ht]; omega)) (pls_cons (c.pl.mono (by simp only [Bd.ht]; omega)) pls_nil))))
  | .thn a b => pl_tup (pls_cons (pl_str (by decide +kernel)) (pls_cons (a.pl.mono (by simp only [Bd.ht]; omega)) (pls_cons (b.pl.mono (by simp only [Bd.ht]; omega)) pls_nil)))
  | .say a => pl_tup (pls_cons (pl_str (by decide +kernel)) (pls_cons (a.pl.mono (by simp only [Bd.ht]; omega)) pls_nil))
  | .call f a => pl_tup (pls_cons (pl_str (by decide +kernel)) (pls_cons pl_int (pls_cons (a.pl.mono (by simp only [Bd.ht]; omega)) pls_nil)))
  | .thr a b => pl_tup (pls_cons (pl_str (by decide +kernel)) (pls_cons (a.pl.mono (by simp only [Bd.ht]; omega)) (pls_cons (b.pl.mono (by simp only [Bd.ht]; omega)) pls_nil)))
def c_is_number : Ss := .cons (.ret (.bool true (.cons (.isi .int (.var 0)) (.cons (.not (.isi .bl (.var 0))) (.cons (.chain .LtE .LtE (.var 1) (.var 0) (.var 2)) .nil))))) .nil
def n_is_number : List Str := ["part", "low", "high"]
def c_words_in_6 : Ss := .cons (.ret (.bin .Add false (.glob 10) (.lit (.int 1)))) .nil
def c_words_in_7 : Ss := .cons (.ret (.bin .Add false (.glob 10) (.lit (.int 1)))) .nil
def c_words_in_9 : Ss := .cons (.asg (.name 4) (.bin .Add false (.var 4) (.call 1 (.cons (.var 5) (.cons (.var 1) (.cons (.bin .Add false (.var 2) (.lit (.int 1))) .nil)))))) .nil
def c_words_in_11 : Ss := .cons (.ret (.bin .Add false (.glob 10) (.lit (.int 1)))) .nil
def c_words_in_10 : Ss := .cons (.ite (.not (.call 0 (.cons (.var 5) (.cons (.lit (.int 0)) (.cons (.ite (.cmp .Eq (.var 6) (.lit (.str "n"))) (.glob 6) (.bin .Sub false (.var 1) (.lit (.int 1)))) .nil))))) c_words_in_11 .nil) .nil
def c_words_in_8 : Ss := .cons (.ite (.cmp .Eq (.var 6) (.lit (.str "x"))) c_words_in_9 c_words_in_10) .nil
def c_words_in_5 : Ss := .cons (.ret (.var 4)) .nil
def c_words_in_4 : Ss := .cons (.for_ (.tup [5, 6]) (.zip (.slice false (.var 0) (.some (.lit (.int 1))) .none) (.var 3)) c_words_in_8) c_words_in_5
def c_words_in_3 : Ss := .cons (.asg (.name 4) (.lit (.int 1))) c_words_in_4
def c_words_in_2 : Ss := .cons (.ite (.bool false (.cons (.cmp .Is (.var 3) (.lit .non)) (.cons (.cmp .NotEq (.blt false .len (.cons (.var 0) .nil)) (.bin .Add false (.blt false .len (.cons (.var 3) .nil)) (.lit (.int 1)))) .nil))) c_words_in_7 .nil) c_words_in_3
def c_words_in_1 : Ss := .cons (.asg (.name 3) (.kget 0 (.idx (.var 0) (.lit (.int 0))))) c_words_in_2
def c_words_in : Ss := .cons (.ite (.bool false (.cons (.not (.isi .tup (.var 0))) (.cons (.cmp .Eq (.var 0) (.tup .nil)) (.cons (.not (.isi .str (.idx (.var 0) (.lit (.int 0))))) (.cons (.cmp .Gt (.var 2) (.glob 9)) .nil))))) c_words_in_6 .nil) c_words_in_1
def n_words_in : List Str := ["body", "many", "within", "arms", "found", "arm", "sort"]
def c_is_function_2 : Ss := .cons (.ret (.lit (.bl false))) .nil
def c_is_function_1 : Ss := .cons (.ret (.cmp .LtE (.call 1 (.cons (.idx (.var 0) (.lit (.int 1))) (.cons (.var 1) (.cons (.lit (.int 0)) .nil)))) (.glob 10))) .nil
def c_is_function : Ss := .cons (.ite (.bool false (.cons (.not (.isi .tup (.var 0))) (.cons (.cmp .NotEq (.blt false .len (.cons (.var 0) .nil)) (.lit (.int 2))) (.cons (.not (.call 0 (.cons (.idx (.var 0) (.lit (.int 0))) (.cons (.lit (.int 1)) (.cons (.glob 8) .nil))))) .nil)))) c_is_function_2 .nil) c_is_function_1
def n_is_function : List Str := ["function", "many"]
def c_need_program_2 : Ss := .cons .never .nil
def c_need_program_4 : Ss := .cons .never .nil
def c_need_program_3 : Ss := .cons (.ite (.bool false (.cons (.cmp .GtE (.var 1) (.glob 5)) (.cons (.not (.call 2 (.cons (.idx (.var 0) (.var 1)) (.cons (.blt false .len (.cons (.var 0) .nil)) .nil)))) .nil))) c_need_program_4 .nil) .nil
def c_need_program_1 : Ss := .cons (.for_ (.name 1) (.rg1 (.blt false .len (.cons (.var 0) .nil))) c_need_program_3) .nil
def c_need_program : Ss := .cons (.ite (.cmp .Eq (.blt false .len (.cons (.var 0) .nil)) (.lit (.int 0))) c_need_program_2 .nil) c_need_program_1
def n_need_program : List Str := ["program", "number"]
def sp_is_number : Nat → Wp := fun _ ws M Q _ => ∃ i lo hi, ws = [.int i, .int lo, .int hi] ∧ Q (.bl (decide (lo ≤ i) && decide (i ≤ hi))) M
theorem keep_is_number {Γ : Gam} {k : Nat} : KeepC Γ n_is_number 3 c_is_number (sp_is_number k) := by
  rintro ws M Q Ex ⟨i, lo, hi, rfl, q⟩
  refine ⟨rfl, ?_⟩
  show dSs Γ _ _ [some (.int i), some (.int lo), some (.int hi)] M
  simp only [evs_, c_is_number]
  by_cases h : lo ≤ i
  · simpa [h] using q
  · simpa [h] using q
def sp_words_in : Nat → Wp := fun k ws M Q _ => ∃ (b : Bd) (m w : Nat), ws = [b.enc, .int m, .int w] ∧ b.ok m ∧ w + b.ht ≤ 6 ∧ b.ht + 1 ≤ k ∧ Q (.int b.cnt) M
theorem use_words {k : Nat} {b : Bd} {m w : Nat} {M : Mh} {Q : QW} {Ex : QX} (hb : b.ok m) (hw : w + 1 + b.ht ≤ 6) (hk : b.ht + 1 ≤ k) (q : Q (.int b.cnt) M) : sp_words_in k [b.enc, .int m, .int ((w : Int) + 1)] M Q Ex := ⟨b, m, w + 1, rfl, hb, hw, hk, q⟩
theorem use_num {k : Nat} {i lo hi : Int} {M : Mh} {Q : QW} {Ex : QX} (h1 : lo ≤ i) (h2 : i ≤ hi) (q : Q (.bl true) M) : sp_is_number k [.int i, .int lo, .int hi] M Q Ex := ⟨i, lo, hi, rfl, by simpa [h1, h2] using q⟩
theorem keep_words_in {Γ : Gam} {k : Nat} (f_words_in : Γ.fn 1 = dn sp_words_in k) (f_is_number : Γ.fn 0 = dn sp_is_number k) (g_MOST_WITHIN : Γ.gl 9 = .int 6) (g_MOST_WORDS : Γ.gl 10 = .int 40) (g_MOST_NUM : Γ.gl 6 = .int 99) (k_ARMS : Γ.kd 0 = ARMS) : KeepC Γ n_words_in 3 c_words_in (sp_words_in k) := by
  rintro ws M Q Ex ⟨b, m, w, rfl, hb, hw, hk, q⟩
  refine ⟨rfl, ?_⟩
  show dSs Γ _ _ [some b.enc, some (.int m), some (.int w), none, none, none, none] M
  cases k with
  | zero => omega
  | succ k =>
  have hp : PlW 64 b.enc := b.pl.mono (by omega)
  have hw6 : ¬ ((6 : Int) < (w : Int)) := by omega
  rw [Bd.enc_eq] at hp ⊢
  rw [c_words_in, dss_cons]
  cases b with
  | num n =>
    simp only [Bd.ws] at hp ⊢
    simp only [evs_, eq_tup0 hp, f_words_in, f_is_number, g_MOST_WITHIN, g_MOST_WORDS, g_MOST_NUM, k_ARMS, dn, hw6, c_words_in_6, c_words_in_7, c_words_in_9, c_words_in_11, c_words_in_10, c_words_in_8, c_words_in_5, c_words_in_4, c_words_in_3, c_words_in_2, c_words_in_1, c_words_in, tl_num, ln_n, sg_n, nx, fx, fn_]
    exact ⟨by decide, use_num (by omega) (by have : n ≤ 99 := hb; omega) (by simp only [evs_, dX]; exact q)⟩
  | arg =>
    simp only [Bd.ws] at hp ⊢
    simp only [evs_, eq_tup0 hp, f_words_in, f_is_number, g_MOST_WITHIN, g_MOST_WORDS, g_MOST_NUM, k_ARMS, dn, hw6, c_words_in_6, c_words_in_7, c_words_in_9, c_words_in_11, c_words_in_10, c_words_in_8, c_words_in_5, c_words_in_4, c_words_in_3, c_words_in_2, c_words_in_1, c_words_in, tl_argument, ln_0, sg_0, nx, fx, fn_]
    first | exact ⟨by decide, q⟩ | exact q
  | way f =>
    simp only [Bd.ws] at hp ⊢
    simp only [evs_, eq_tup0 hp, f_words_in, f_is_number, g_MOST_WITHIN, g_MOST_WORDS, g_MOST_NUM, k_ARMS, dn, hw6, c_words_in_6, c_words_in_7, c_words_in_9, c_words_in_11, c_words_in_10, c_words_in_8, c_words_in_5, c_words_in_4, c_words_in_3, c_words_in_2, c_words_in_1, c_words_in, tl_way, ln_f, sg_f, nx, fx, fn_]
    exact ⟨by decide, use_num (by omega) (by have : f < m := hb; omega) (by simp only [evs_, dX]; exact q)⟩
  | plus a b =>
    simp only [Bd.ws] at hp ⊢
    simp only [evs_, eq_tup0 hp, f_words_in, f_is_number, g_MOST_WITHIN, g_MOST_WORDS, g_MOST_NUM, k_ARMS, dn, hw6, c_words_in_6, c_words_in_7, c_words_in_9, c_words_in_11, c_words_in_10, c_words_in_8, c_words_in_5, c_words_in_4, c_words_in_3, c_words_in_2, c_words_in_1, c_words_in, tl_plus, ln_xx, sg_xx, nx, fx, fn_]
    simp only [Bd.ht] at hw hk
    refine ⟨by decide, ?_⟩
    refine use_words hb.1 (by omega) (by omega) ?_
    simp only [add_int]
    refine use_words hb.2 (by omega) (by omega) ?_
    simp only [add_int]
    simpa only [Bd.cnt, Int.natCast_add, Int.cast_ofNat_Int] using q
  | less a b =>
    simp only [Bd.ws] at hp ⊢
    simp only [evs_, eq_tup0 hp, f_words_in, f_is_number, g_MOST_WITHIN, g_MOST_WORDS, g_MOST_NUM, k_ARMS, dn, hw6, c_words_in_6, c_words_in_7, c_words_in_9, c_words_in_11, c_words_in_10, c_words_in_8, c_words_in_5, c_words_in_4, c_words_in_3, c_words_in_2, c_words_in_1, c_words_in, tl_less, ln_xx, sg_xx, nx, fx, fn_]
    simp only [Bd.ht] at hw hk
    refine ⟨by decide, ?_⟩
    refine use_words hb.1 (by omega) (by omega) ?_
    simp only [add_int]
    refine use_words hb.2 (by omega) (by omega) ?_
    simp only [add_int]
    simpa only [Bd.cnt, Int.natCast_add, Int.cast_ofNat_Int] using q
  | times a b =>
    simp only [Bd.ws] at hp ⊢
    simp only [evs_, eq_tup0 hp, f_words_in, f_is_number, g_MOST_WITHIN, g_MOST_WORDS, g_MOST_NUM, k_ARMS, dn, hw6, c_words_in_6, c_words_in_7, c_words_in_9, c_words_in_11, c_words_in_10, c_words_in_8, c_words_in_5, c_words_in_4, c_words_in_3, c_words_in_2, c_words_in_1, c_words_in, tl_times, ln_xx, sg_xx, nx, fx, fn_]
    simp only [Bd.ht] at hw hk
    refine ⟨by decide, ?_⟩
    refine use_words hb.1 (by omega) (by omega) ?_
    simp only [add_int]
    refine use_words hb.2 (by omega) (by omega) ?_
    simp only [add_int]
    simpa only [Bd.cnt, Int.natCast_add, Int.cast_ofNat_Int] using q
  | iff a b c =>
    simp only [Bd.ws] at hp ⊢
    simp only [evs_, eq_tup0 hp, f_words_in, f_is_number, g_MOST_WITHIN, g_MOST_WORDS, g_MOST_NUM, k_ARMS, dn, hw6, c_words_in_6, c_words_in_7, c_words_in_9, c_words_in_11, c_words_in_10, c_words_in_8, c_words_in_5, c_words_in_4, c_words_in_3, c_words_in_2, c_words_in_1, c_words_in, tl_if, ln_xxx, sg_xxx, nx, fx, fn_]
    simp only [Bd.ht] at hw hk
    refine ⟨by decide, ?_⟩
    refine use_words hb.1 (by omega) (by omega) ?_
    simp only [add_int]
    refine use_words hb.2.1 (by omega) (by omega) ?_
    simp only [add_int]
    refine use_words hb.2.2 (by omega) (by omega) ?_
    simp only [add_int]
    simpa only [Bd.cnt, Int.natCast_add, Int.cast_ofNat_Int] using q
  | thn a b =>
    simp only [Bd.ws] at hp ⊢
    simp only [evs_, eq_tup0 hp, f_words_in, f_is_number, g_MOST_WITHIN, g_MOST_WORDS, g_MOST_NUM, k_ARMS, dn, hw6, c_words_in_6, c_words_in_7, c_words_in_9, c_words_in_11, c_words_in_10, c_words_in_8, c_words_in_5, c_words_in_4, c_words_in_3, c_words_in_2, c_words_in_1, c_words_in, tl_then, ln_xx, sg_xx, nx, fx, fn_]
    simp only [Bd.ht] at hw hk
    refine ⟨by decide, ?_⟩
    refine use_words hb.1 (by omega) (by omega) ?_
    simp only [add_int]
    refine use_words hb.2 (by omega) (by omega) ?_
    simp only [add_int]
    simpa only [Bd.cnt, Int.natCast_add, Int.cast_ofNat_Int] using q
  | say a =>
    simp only [Bd.ws] at hp ⊢
    simp only [evs_, eq_tup0 hp, f_words_in, f_is_number, g_MOST_WITHIN, g_MOST_WORDS, g_MOST_NUM, k_ARMS, dn, hw6, c_words_in_6, c_words_in_7, c_words_in_9, c_words_in_11, c_words_in_10, c_words_in_8, c_words_in_5, c_words_in_4, c_words_in_3, c_words_in_2, c_words_in_1, c_words_in, tl_say, ln_x, sg_x, nx, fx, fn_]
    simp only [Bd.ht] at hw hk
    refine ⟨by decide, ?_⟩
    refine use_words hb (by omega) (by omega) ?_
    simp only [add_int]
    simpa only [Bd.cnt, Int.natCast_add, Int.cast_ofNat_Int] using q
  | call f a =>
    simp only [Bd.ws] at hp ⊢
    simp only [evs_, eq_tup0 hp, f_words_in, f_is_number, g_MOST_WITHIN, g_MOST_WORDS, g_MOST_NUM, k_ARMS, dn, hw6, c_words_in_6, c_words_in_7, c_words_in_9, c_words_in_11, c_words_in_10, c_words_in_8, c_words_in_5, c_words_in_4, c_words_in_3, c_words_in_2, c_words_in_1, c_words_in, tl_call, ln_fx, sg_fx, nx, fx, fn_]
    simp only [Bd.ht] at hw hk
    refine ⟨by decide, ?_⟩
    refine use_num (by omega) (by have := hb.1; omega) ?_
    simp only [evs_, dX]
    refine use_words hb.2 (by omega) (by omega) ?_
    simp only [add_int]
    simpa only [Bd.cnt, Int.natCast_add, Int.cast_ofNat_Int] using q
  | thr a b =>
    simp only [Bd.ws] at hp ⊢
    simp only [evs_, eq_tup0 hp, f_words_in, f_is_number, g_MOST_WITHIN, g_MOST_WORDS, g_MOST_NUM, k_ARMS, dn, hw6, c_words_in_6, c_words_in_7, c_words_in_9, c_words_in_11, c_words_in_10, c_words_in_8, c_words_in_5, c_words_in_4, c_words_in_3, c_words_in_2, c_words_in_1, c_words_in, tl_through, ln_xx, sg_xx, nx, fx, fn_]
    simp only [Bd.ht] at hw hk
    refine ⟨by decide, ?_⟩
    refine use_words hb.1 (by omega) (by omega) ?_
    simp only [add_int]
    refine use_words hb.2 (by omega) (by omega) ?_
    simp only [add_int]
    simpa only [Bd.cnt, Int.natCast_add, Int.cast_ofNat_Int] using q
def encF (f : Nat × Bd) : W := .tup [.int f.1, f.2.enc]
def encP (p : List (Nat × Bd)) : W := .tup (p.map encF)
structure FOk (m : Nat) (f : Nat × Bd) : Prop where
  s1 : 1 ≤ f.1
  s8 : f.1 ≤ 8
  ok : f.2.ok m
  ht : f.2.ht ≤ 6
  cnt : f.2.cnt ≤ 40
structure PrOk (p : List (Nat × Bd)) : Prop where
  l1 : 1 ≤ p.length
  l8 : p.length ≤ 8
  ok : ∀ f ∈ p, FOk p.length f
def sp_is_function : Nat → Wp := fun k ws M Q _ => ∃ (f : Nat × Bd) (m : Nat), ws = [encF f, .int m] ∧ FOk m f ∧ 8 ≤ k ∧ Q (.bl true) M
theorem keep_is_function {Γ : Gam} {k : Nat} (f_is_number : Γ.fn 0 = dn sp_is_number k) (f_words_in : Γ.fn 1 = dn sp_words_in k) (g_MOST_SIZE : Γ.gl 8 = .int 8) (g_MOST_WORDS : Γ.gl 10 = .int 40) : KeepC Γ n_is_function 2 c_is_function (sp_is_function k) := by
  rintro ws M Q Ex ⟨⟨s, b⟩, m, rfl, ok, hk, q⟩
  refine ⟨rfl, ?_⟩
  obtain ⟨h1, h2, h3, h4, h5⟩ := ok
  dsimp only at h1 h2 h3 h4 h5
  show dSs Γ _ _ [some (encF (s, b)), some (.int m)] M
  cases k with
  | zero => omega
  | succ k =>
  simp only [evs_, encF, f_is_number, f_words_in, g_MOST_SIZE, g_MOST_WORDS, dn, c_is_function_2, c_is_function_1, c_is_function]
  refine use_num (by omega) (by omega) ?_
  simp only [evs_, dX]
  refine ⟨b, m, 0, rfl, h3, by omega, by omega, ?_⟩
  simp only [evs_, dX]
  rw [decide_eq_true (by omega : (b.cnt : Int) ≤ 40)]
  exact q
def sp_need_program : Nat → Wp := fun k ws M Q _ => ∃ (p : List (Nat × Bd)), ws = [encP p] ∧ PrOk p ∧ 9 ≤ k ∧ Q .non M
theorem keep_need_program {Γ : Gam} {k : Nat} (f_is_function : Γ.fn 2 = dn sp_is_function k) (g_MOST_FUNCTIONS : Γ.gl 5 = .int 8) : KeepC Γ n_need_program 1 c_need_program (sp_need_program k) := by
  rintro ws M Q Ex ⟨p, rfl, ok, hk, q⟩
  refine ⟨rfl, ?_⟩
  show dSs Γ _ _ [some (encP p), none] M
  cases k with
  | zero => omega
  | succ k =>
  have h8 := ok.l8
  have h1 := ok.l1
  have hz : ¬ ((p.length : Int) = 0) := by omega
  simp only [evs_, encP, c_need_program, c_need_program_1, List.length_map, hz]
  refine ⟨by omega, by omega, ?_⟩
  refine for_range (fun _ σ M' => (∃ x, σ = [some (.tup (p.map encF)), x]) ∧ M' = M) ?_ (fun i σ M' K hi h hK => ?_) (fun σ M' h => ?_)
  · exact ⟨⟨_, rfl⟩, rfl⟩
  · obtain ⟨⟨x, rfl⟩, rfl⟩ := h
    have hi8 : ¬ ((8 : Int) ≤ (i : Int)) := by omega
    have hgi : p[i]? = some p[i] := List.getElem?_eq_getElem hi
    have hm : (p.map encF)[i]? = some (encF p[i]) := by rw [List.getElem?_map, hgi]; rfl
    simp only [evs_, c_need_program_3, f_is_function, g_MOST_FUNCTIONS, dn, hi8, atN hm, List.length_map]
    refine ⟨p[i], p.length, rfl, ok.ok _ (List.getElem_mem hi), by omega, ?_⟩
    simp only [evs_, dX]
    exact hK _ _ ⟨⟨_, rfl⟩, rfl⟩
  · obtain ⟨_, rfl⟩ := h
    exact q
end WL
namespace WL
open PySem L2
local macro_rules | `(tactic| simp only [evs_, $xs,*]) => `(tactic| simp only [dX, dXs, dXo, dXi, dSc, d2, d1, dN, dVar, dC, dTup, dLst, dTru, dB, dChain, dIte, dNotV, dNotT, dJoinV, dJoinT, dNil, dCons, dCall, dBM, dIsi, dIsi2, dAttr, dMeth, dNew, dDget, dDin, dDnew, dKidx, dKin, dKget, dDisp, dFrz, dRev, dLrg, dSset, dSlice, dNoPart, dPart, dDfz, dRaise, dTry, dCatch, dKind, isx_eq, xfl_eq, dIsc, Gam.low, dAsg, dExpr, dRet, dIf, dFld, dSet, dDput, dNever, dFor, dNext, binP, cmpP, iSeqD, iRg1, iRg2, iZip, iEnumD, Tg.asg, setAll, List.set, List.map_cons, List.map_nil, subW, modW, fdivW, powW, ltW, leW, gtW, geW, newL, finD, frzO, tupW, listW, oneW, twoW, BI.w, ints_eq, add_int, add_str, add_tup, add_lst, mul_int, mul_lst, mul_tup, idx_tup, idx_lst, idx_scr, idx_str, len_tup, len_lst, len_scr, len_str, sl_tup, sl_lst, neg_int, str_int, str_str, int_int, int_bl, is_non, is_int, is_str, is_tup, is_lst, is_bl, is_bb, dss_cons, eq_int, eq_str, eq_bl, ne_int, ne_str, ne_bl, eq_nilL, ty_non, ty_bl, ty_int, ty_str, ty_tup, ty_lst, ty_scr, ty_dk, Ty.sub, tr_bl, tr_non, tr_int, tr_str, sv_lst, sv_tup, sv_scr, lv_lst, at0, at1, at2, cut1, len0, ss_nil, for_nil, for_cons, pairs_cons, pairs_nil, pairs_nil', walk_lst, walk_scr, walk_tup, walk_str, walk_ref, List.getElem?_cons_zero, List.getElem?_cons_succ, List.length_cons, List.length_nil, List.append_nil, List.cons_append, List.nil_append, Option.some.injEq, W.int.injEq, W.str.injEq, W.bl.injEq, W.tup.injEq, W.lst.injEq, W.ref.injEq, List.cons.injEq, Option.map_some, exists_and_left, exists_and_right, exists_eq_left, exists_eq_left', exists_eq, exists_eq', exists_eq_right, exists_eq_right', and_true, true_and, and_assoc, reduceIte, reduceCtorEq, decide_true, decide_false, decide_eq_true_eq, decide_eq_false_iff_not, Bool.not_eq_true', Bool.not_eq_false', Bool.true_eq_false, Bool.false_eq_true, if_true, if_false, Bool.not_true, Bool.not_false, ite_true, ite_false, Int.cast_ofNat_Int, Int.reduceAdd, Int.reduceSub, Int.reduceEq, Int.reduceLT, Int.reduceLE, Int.natCast_add, Nat.reduceEqDiff, Nat.reduceAdd, Nat.add_zero, Nat.zero_add, Nat.succ_ne_zero, not_true_eq_false, not_false_eq_true, Option.getD_some, Option.getD_none, Option.isSome_some, Option.isSome_none, $xs,*])
def c_l_mix_3 : Ss := .cons (.asg (.name 2) (.bin .Mod false (.bin .Add false (.bin .Add false (.bin .Mult false (.var 2) (.lit (.int 48271))) (.bin .Mod false (.var 3) (.lit (.int 2147483629)))) (.lit (.int 1))) (.lit (.int 2147483647)))) .nil
def c_l_mix_2 : Ss := .cons (.ret (.lst true (.cons (.var 2) (.cons (.blt true .list (.cons (.var 0) .nil)) (.cons (.lit (.int 0)) .nil))))) .nil
def c_l_mix_1 : Ss := .cons (.for_ (.name 3) (.seq (.var 0)) c_l_mix_3) c_l_mix_2
def c_l_mix : Ss := .cons (.asg (.name 2) (.var 1)) c_l_mix_1
def n_l_mix : List Str := ["_law_script", "_law_seed", "_law_mixed", "_law_cell"]
def c_l_next_7 : Ss := .cons (.ret (.bin .Mod false (.var 3) (.var 1))) .nil
def c_l_next_6 : Ss := .cons (.set (.idx (.var 0) (.lit (.int 1))) (.var 2) (.bin .FloorDiv false (.var 3) (.var 1))) c_l_next_7
def c_l_next_5 : Ss := .cons (.ret (.bin .Mod false (.bin .FloorDiv false (.idx (.var 0) (.lit (.int 0))) (.lit (.int 7))) (.var 1))) .nil
def c_l_next_4 : Ss := .cons (.set (.var 0) (.lit (.int 2)) (.bin .Add false (.idx (.var 0) (.lit (.int 2))) (.lit (.int 1)))) c_l_next_5
def c_l_next_3 : Ss := .cons (.set (.var 0) (.lit (.int 0)) (.bin .Mod false (.bin .Add false (.bin .Add false (.bin .Mult false (.idx (.var 0) (.lit (.int 0))) (.lit (.int 48271))) (.bin .Mult false (.var 3) (.lit (.int 69621)))) (.lit (.int 11))) (.lit (.int 2147483647)))) c_l_next_4
def c_l_next_2 : Ss := .cons (.ite (.cmp .GtE (.var 3) (.bin .Pow false (.lit (.int 10)) (.lit (.int 18)))) c_l_next_6 .nil) c_l_next_3
def c_l_next_1 : Ss := .cons (.asg (.name 3) (.ite (.cmp .NotEq (.idx (.var 0) (.lit (.int 1))) (.lst false .nil)) (.idx (.idx (.var 0) (.lit (.int 1))) (.var 2)) (.lit (.int 0)))) c_l_next_2
def c_l_next : Ss := .cons (.asg (.name 2) (.bin .Mod false (.idx (.var 0) (.lit (.int 2))) (.blt false .max2 (.cons (.lit (.int 1)) (.cons (.blt false .len (.cons (.idx (.var 0) (.lit (.int 1))) .nil)) .nil))))) c_l_next_1
def n_l_next : List Str := ["_law_h", "_law_many", "_law_at", "_law_cell"]
structure Hs (a s : Addr) (M : Mh) : Prop where
  ex : ∃ (x t : Nat) (cells : List Int), M a = some (.lst [.int x, .ref s, .int t]) ∧ M s = some (.lst (cells.map W.int)) ∧ x < 2147483647
  ne : a ≠ s
def Fr (a s : Addr) (M M' : Mh) : Prop := ∀ b o, M b = some o → b ≠ a → b ≠ s → M' b = some o
theorem Fr.refl {a s : Addr} {M : Mh} : Fr a s M M := fun _ _ h _ _ => h
theorem Fr.trans {a s : Addr} {M M' M'' : Mh} (h : Fr a s M M') (h' : Fr a s M' M'') : Fr a s M M'' := fun b o hb h1 h2 => h' b o (h b o hb h1 h2) h1 h2
theorem mup_at {M : Mh} {a : Addr} {o : MO} : mup M a o a = some o := by simp [mup]
theorem mup_off {M : Mh} {a b : Addr} {o : MO} (h : b ≠ a) : mup M a o b = M b := by simp [mup, h]
def sp_l_mix : Nat → Wp := fun _ ws M Q _ => ∃ (ns : List Int) (n : Nat), ws = [.scr (ns.map W.int), .int n] ∧ n < 2147483647 ∧ ∀ a s M', M a = none → M s = none → Hs a s M' → Fr a s M M' → Q (.ref a) M'
theorem keep_l_mix {Γ : Gam} {k : Nat} : KeepC Γ n_l_mix 2 c_l_mix (sp_l_mix k) := by
  rintro ws M Q Ex ⟨ns, n, rfl, hn, q⟩
  refine ⟨rfl, ?_⟩
  show dSs Γ _ _ [some (.scr (ns.map W.int)), some (.int n), none, none] M
  simp only [evs_, c_l_mix, c_l_mix_1]
  refine for_inv (fun _ σ M' => (∃ (x : Nat) (y : Option W), σ = [some (.scr (ns.map W.int)), some (.int n), some (.int x), y] ∧ x < 2147483647) ∧ M' = M) (fun _ _ _ _ => trivial) _ 0 ⟨⟨n, _, rfl, hn⟩, rfl⟩ (fun i x σ M' K e h hK => ?_) (fun σ M' h => ?_)
  · obtain ⟨⟨x0, y, rfl, hx⟩, rfl⟩ := h
    obtain ⟨c, rfl⟩ : ∃ c : Int, x = .int c := by
      obtain ⟨c, _, h⟩ := List.mem_map.mp (List.mem_of_getElem? e)
      exact ⟨c, h.symm⟩
    simp only [evs_, c_l_mix_3]
    refine ⟨.inl ⟨by omega, by omega⟩, ?_⟩
    have h0 : 0 ≤ ((x0 : Int) * 48271 + c % 2147483629 + 1) % 2147483647 := Int.emod_nonneg _ (by decide)
    have h1 : ((x0 : Int) * 48271 + c % 2147483629 + 1) % 2147483647 < 2147483647 := Int.emod_lt_of_pos _ (by decide)
    obtain ⟨m, hm⟩ := Int.eq_ofNat_of_zero_le h0
    rw [hm]
    exact hK _ _ ⟨⟨m, _, rfl, by omega⟩, rfl⟩
  · obtain ⟨⟨x0, y, rfl, hx⟩, rfl⟩ := h
    simp only [evs_, c_l_mix_2]
    intro s hs
    refine ⟨by decide, fun a ha => ?_⟩
    have ne : a ≠ s := fun z => by rw [z, mup_at] at ha; cases ha
    rw [mup_off ne] at ha
    refine q a s _ ha hs ⟨⟨x0, 0, ns, mup_at, by rw [mup_off (Ne.symm ne), mup_at], hx⟩, ne⟩ fun b o hb h1 h2 => ?_
    rw [mup_off h1, mup_off h2]; exact hb
def sp_l_next : Nat → Wp := fun _ ws M Q _ => ∃ (a s : Addr) (n : Nat), ws = [.ref a, .int n] ∧ Hs a s M ∧ 0 < n ∧ n < 1073741824 ∧ ∀ (r : Nat) M', r < n → Hs a s M' → Fr a s M M' → Q (.int r) M'
theorem keep_l_next {Γ : Gam} {k : Nat} : KeepC Γ n_l_next 2 c_l_next (sp_l_next k) := by
  rintro ws M Q Ex ⟨a, s, n, rfl, ⟨⟨x, t, cells, ha, hs, hx⟩, ne⟩, hn, hn2, q⟩
  refine ⟨rfl, ?_⟩
  show dSs Γ _ _ [some (.ref a), some (.int n), none, none] M
  rw [c_l_next, dss_cons]
  simp only [evs_, idx_ref ha, len_ref hs, c_l_next_1, ne_ref0 hs (pl_lst fun w hw => by obtain ⟨c, _, rfl⟩ := List.mem_map.mp hw; exact pl_int), idx_ref hs, List.map_eq_nil_iff, List.length_map]
  have tail : ∀ (c j : Int), (1000000000000000000 ≤ c → ∃ i : Nat, i < cells.length ∧ j = i) → dSs Γ c_l_next_2 { nx := fun x M' => Q W.non M', rt := Q, ex := Ex } [some (W.ref a), some (W.int n), some (W.int j), some (.int c)] M := by
    intro c j hc
    have p18 : ((10 : Int) ^ (18 : Int).toNat) = 1000000000000000000 := by decide
    simp only [evs_, c_l_next_2, p18]
    refine ⟨by decide, ?_⟩
    by_cases h : 1000000000000000000 ≤ c
    · obtain ⟨i, hi, rfl⟩ := hc h
      simp only [evs_, h, if_true, c_l_next_6, idx_ref ha]
      refine ⟨by omega, by omega, _, hs, i, by simp [ixN, hi], ?_⟩
      simp only [evs_, c_l_next_7]
      refine ⟨by omega, ?_⟩
      have h0 := Int.emod_nonneg c (by omega : (n : Int) ≠ 0)
      have h1 := Int.emod_lt_of_pos c (by omega : (0 : Int) < n)
      obtain ⟨r, hr⟩ := Int.eq_ofNat_of_zero_le h0
      rw [hr]
      refine q r _ (by omega) ⟨⟨x, t, cells.set i (c / n), by rw [mup_off ne]; exact ha, by rw [mup_at, List.map_set], hx⟩, ne⟩ fun b o hb h1 h2 => ?_
      rw [mup_off h2]; exact hb
    · simp only [evs_, h, if_false, c_l_next_3, idx_ref ha]
      have h0 : 0 ≤ ((x : Int) * 48271 + c * 69621 + 11) % 2147483647 := Int.emod_nonneg _ (by decide)
      have h1 : ((x : Int) * 48271 + c * 69621 + 11) % 2147483647 < 2147483647 := Int.emod_lt_of_pos _ (by decide)
      obtain ⟨x2, hx2⟩ := Int.eq_ofNat_of_zero_le h0
      rw [hx2] at h1 ⊢
      refine ⟨.inl ⟨by omega, by omega⟩, .inr ⟨by omega, by omega⟩, _, ha, 0, rfl, ?_⟩
      simp only [evs_, c_l_next_4, idx_ref mup_at]
      refine ⟨_, mup_at, 2, rfl, ?_⟩
      simp only [evs_, c_l_next_5, idx_ref mup_at]
      refine ⟨by omega, ?_⟩
      have g0 := Int.emod_nonneg ((x2 : Int) / 7) (by omega : (n : Int) ≠ 0)
      have g1 := Int.emod_lt_of_pos ((x2 : Int) / 7) (by omega : (0 : Int) < n)
      obtain ⟨r, hr⟩ := Int.eq_ofNat_of_zero_le g0
      rw [hr]
      refine q r _ (by omega) ⟨⟨x2, t + 1, cells, by rw [mup_at]; rfl, by rw [mup_off (Ne.symm ne), mup_off (Ne.symm ne)]; exact hs, by omega⟩, ne⟩ fun b o hb h1 h2 => ?_
      rw [mup_off h1, mup_off h1]; exact hb
  by_cases he : cells = []
  · subst he
    refine ⟨by decide, ?_⟩
    rw [if_neg (by simp)]
    exact tail _ _ fun h => absurd h (by decide)
  · rw [if_pos he]
    have hl : 1 ≤ cells.length := by
      cases cells with
      | nil => exact absurd rfl he
      | cons _ _ => simp
    have e : (if (cells.length : Int) > 1 then (cells.length : Int) else 1) = cells.length := by split <;> omega
    rw [e]
    have h0 := Int.emod_nonneg (t : Int) (by omega : (cells.length : Int) ≠ 0)
    have h1 := Int.emod_lt_of_pos (t : Int) (by omega : (0 : Int) < cells.length)
    obtain ⟨i, hi⟩ := Int.eq_ofNat_of_zero_le h0
    rw [hi] at h1 ⊢
    have hi2 : i < cells.length := by omega
    refine ⟨by omega, _, atN (w := .int cells[i]) ?_, tail _ _ fun _ => ⟨i, hi2, rfl⟩⟩
    rw [List.getElem?_map, List.getElem?_eq_getElem hi2]
    rfl
end WL
namespace WL
open PySem L2
local macro_rules | `(tactic| simp only [evs_, $xs,*]) => `(tactic| simp only [dX, dXs, dXo, dXi, dSc, d2, d1, dN, dVar, dC, dTup, dLst, dTru, dB, dChain, dIte, dNotV, dNotT, dJoinV, dJoinT, dNil, dCons, dCall, dBM, dIsi, dIsi2, dAttr, dMeth, dNew, dDget, dDin, dDnew, dKidx, dKin, dKget, dDisp, dFrz, dRev, dLrg, dSset, dSlice, dNoPart, dPart, dDfz, dRaise, dTry, dCatch, dKind, isx_eq, xfl_eq, dIsc, Gam.low, dAsg, dExpr, dRet, dIf, dFld, dSet, dDput, dNever, dFor, dNext, binP, cmpP, iSeqD, iRg1, iRg2, iZip, iEnumD, Tg.asg, setAll, List.set, List.map_cons, List.map_nil, subW, modW, fdivW, powW, ltW, leW, gtW, geW, newL, finD, frzO, tupW, listW, oneW, twoW, BI.w, ints_eq, add_int, add_str, add_tup, add_lst, mul_int, mul_lst, mul_tup, idx_tup, idx_lst, idx_scr, idx_str, len_tup, len_lst, len_scr, len_str, sl_tup, sl_lst, neg_int, str_int, str_str, int_int, int_bl, is_non, is_int, is_str, is_tup, is_lst, is_bl, is_bb, dss_cons, eq_int, eq_str, eq_bl, ne_int, ne_str, ne_bl, eq_nilL, ty_non, ty_bl, ty_int, ty_str, ty_tup, ty_lst, ty_scr, ty_dk, Ty.sub, tr_bl, tr_non, tr_int, tr_str, sv_lst, sv_tup, sv_scr, lv_lst, at0, at1, at2, cut1, len0, ss_nil, for_nil, for_cons, pairs_cons, pairs_nil, pairs_nil', walk_lst, walk_scr, walk_tup, walk_str, walk_ref, List.getElem?_cons_zero, List.getElem?_cons_succ, List.length_cons, List.length_nil, List.append_nil, List.cons_append, List.nil_append, Option.some.injEq, W.int.injEq, W.str.injEq, W.bl.injEq, W.tup.injEq, W.lst.injEq, W.ref.injEq, List.cons.injEq, Option.map_some, exists_and_left, exists_and_right, exists_eq_left, exists_eq_left', exists_eq, exists_eq', exists_eq_right, exists_eq_right', and_true, true_and, and_assoc, reduceIte, reduceCtorEq, decide_true, decide_false, decide_eq_true_eq, decide_eq_false_iff_not, Bool.not_eq_true', Bool.not_eq_false', Bool.true_eq_false, Bool.false_eq_true, if_true, if_false, Bool.not_true, Bool.not_false, ite_true, ite_false, Int.cast_ofNat_Int, Int.reduceAdd, Int.reduceSub, Int.reduceEq, Int.reduceLT, Int.reduceLE, Int.natCast_add, Nat.reduceEqDiff, Nat.reduceAdd, Nat.add_zero, Nat.zero_add, Nat.succ_ne_zero, not_true_eq_false, not_false_eq_true, Option.getD_some, Option.getD_none, Option.isSome_some, Option.isSome_none, $xs,*])
def c_l_leaf_v1_3 : Ss := .cons (.asg (.name 3) (.bin .Add false (.var 3) (.lst false (.cons (.tup (.cons (.lit (.str "num")) (.cons (.idx (.lst false (.cons (.call 45 (.cons (.var 0) (.cons (.lit (.int 4)) .nil))) (.cons (.call 45 (.cons (.var 0) (.cons (.lit (.int 100)) .nil))) .nil))) (.call 45 (.cons (.var 0) (.cons (.lit (.int 2)) .nil)))) .nil))) .nil)))) .nil
def c_l_leaf_v1_4 : Ss := .cons (.asg (.name 3) (.bin .Add false (.var 3) (.lc false (.tup (.cons (.lit (.str "way")) (.cons (.idx (.dget (.var 1) (.lit (.str "plain"))) (.call 45 (.cons (.var 0) (.cons (.blt false .len (.cons (.dget (.var 1) (.lit (.str "plain"))) .nil)) .nil)))) .nil))) (.name 4) (.rg1 (.lit (.int 2))) .none [("_law_k", 4)]))) .nil
def c_l_leaf_v1_2 : Ss := .cons (.ret (.idx (.var 3) (.call 45 (.cons (.var 0) (.cons (.blt false .len (.cons (.var 3) .nil)) .nil))))) .nil
def c_l_leaf_v1_1 : Ss := .cons (.ite (.cmp .Eq (.var 2) (.lit (.str "number"))) c_l_leaf_v1_3 c_l_leaf_v1_4) c_l_leaf_v1_2
def c_l_leaf_v1 : Ss := .cons (.asg (.name 3) (.bin .Mult false (.bin .Mult false (.lst false (.cons (.tup (.cons (.lit (.str "argument")) .nil)) .nil)) (.lit (.int 3))) (.blt false .int (.cons (.cmp .Eq (.dget (.var 1) (.lit (.str "came"))) (.var 2)) .nil)))) c_l_leaf_v1_1
def n_l_leaf_v1 : List Str := ["_law_h", "_law_e", "_law_kind", "_law_some", "_law_k"]
def c_l_call_v2_6 : Ss := .cons (.ret (.tup (.cons (.lit (.str "through")) (.cons (.call 50 (.cons (.var 0) (.cons (.var 1) (.cons (.lit (.str "way")) (.cons (.bin .Sub false (.var 2) (.lit (.int 1))) .nil))))) (.cons (.call 49 (.cons (.var 0) (.cons (.var 1) (.cons (.bin .Sub false (.var 2) (.lit (.int 1))) .nil)))) .nil))))) .nil
def c_l_call_v2_7 : Ss := .cons (.asg (.name 4) (.idx (.lst false (.cons (.lit (.str "number")) (.cons (.lit (.str "way")) .nil))) (.call 45 (.cons (.var 0) (.cons (.lit (.int 2)) .nil))))) .nil
def c_l_call_v2_5 : Ss := .cons (.ret (.tup (.cons (.lit (.str "call")) (.cons (.var 3) (.cons (.var 5) .nil))))) .nil
def c_l_call_v2_4 : Ss := .cons (.asg (.name 5) (.ite (.cmp .Eq (.var 4) (.lit (.str "number"))) (.call 49 (.cons (.var 0) (.cons (.var 1) (.cons (.bin .Sub false (.var 2) (.lit (.int 1))) .nil)))) (.call 50 (.cons (.var 0) (.cons (.var 1) (.cons (.lit (.str "way")) (.cons (.bin .Sub false (.var 2) (.lit (.int 1))) .nil))))))) c_l_call_v2_5
def c_l_call_v2_3 : Ss := .cons (.ite (.cmp .Eq (.call 45 (.cons (.var 0) (.cons (.lit (.int 12)) .nil))) (.lit (.int 0))) c_l_call_v2_7 .nil) c_l_call_v2_4
def c_l_call_v2_2 : Ss := .cons (.asg (.name 4) (.idx (.dget (.var 1) (.lit (.str "kinds"))) (.var 3))) c_l_call_v2_3
def c_l_call_v2_1 : Ss := .cons (.asg (.name 3) (.call 45 (.cons (.var 0) (.cons (.blt false .len (.cons (.dget (.var 1) (.lit (.str "kinds"))) .nil)) .nil)))) c_l_call_v2_2
def c_l_call_v2 : Ss := .cons (.ite (.cmp .Eq (.call 45 (.cons (.var 0) (.cons (.lit (.int 3)) .nil))) (.lit (.int 0))) c_l_call_v2_6 .nil) c_l_call_v2_1
def n_l_call_v2 : List Str := ["_law_h", "_law_e", "_law_deep", "_law_called", "_law_kind", "_law_arm"]
def c_l_less_2 : Ss := .cons (.ret (.tup (.cons (.lit (.str "less")) (.cons (.tup (.cons (.lit (.str "argument")) .nil)) (.cons (.tup (.cons (.lit (.str "num")) (.cons (.lit (.int 1)) .nil))) .nil))))) .nil
def c_l_less_1 : Ss := .cons (.ret (.call 50 (.cons (.var 0) (.cons (.var 1) (.cons (.lit (.str "number")) (.cons (.var 2) .nil)))))) .nil
def c_l_less : Ss := .cons (.ite (.bool true (.cons (.cmp .Eq (.dget (.var 1) (.lit (.str "came"))) (.lit (.str "number"))) (.cons (.cmp .Gt (.call 45 (.cons (.var 0) (.cons (.lit (.int 4)) .nil))) (.lit (.int 0))) .nil))) c_l_less_2 .nil) c_l_less_1
def n_l_less : List Str := ["_law_h", "_law_e", "_law_deep"]
def c_l_body_v1_9 : Ss := .cons (.ret (.call 47 (.cons (.var 0) (.cons (.var 1) (.cons (.var 2) .nil))))) .nil
def c_l_body_v1_11 : Ss := .cons (.ret (.tup (.cons (.lit (.str "if")) (.cons (.var 6) (.cons (.call 50 (.cons (.var 0) (.cons (.var 1) (.cons (.var 2) (.cons (.bin .Sub false (.var 3) (.lit (.int 1))) .nil))))) (.cons (.call 50 (.cons (.var 0) (.cons (.var 1) (.cons (.var 2) (.cons (.bin .Sub false (.var 3) (.lit (.int 1))) .nil))))) .nil)))))) .nil
def c_l_body_v1_10 : Ss := .cons (.asg (.name 6) (.call 50 (.cons (.var 0) (.cons (.var 1) (.cons (.lit (.str "number")) (.cons (.bin .Sub false (.var 3) (.lit (.int 1))) .nil)))))) c_l_body_v1_11
def c_l_body_v1_13 : Ss := .cons (.ret (.tup (.cons (.lit (.str "then")) (.cons (.call 50 (.cons (.var 0) (.cons (.var 1) (.cons (.var 7) (.cons (.bin .Sub false (.var 3) (.lit (.int 1))) .nil))))) (.cons (.call 50 (.cons (.var 0) (.cons (.var 1) (.cons (.var 2) (.cons (.bin .Sub false (.var 3) (.lit (.int 1))) .nil))))) .nil))))) .nil
def c_l_body_v1_12 : Ss := .cons (.asg (.name 7) (.idx (.lst false (.cons (.lit (.str "number")) (.cons (.lit (.str "way")) .nil))) (.call 45 (.cons (.var 0) (.cons (.lit (.int 2)) .nil))))) c_l_body_v1_13
def c_l_body_v1_14 : Ss := .cons (.ret (.call 47 (.cons (.var 0) (.cons (.var 1) (.cons (.var 2) .nil))))) .nil
def c_l_body_v1_15 : Ss := .cons (.ret (.call 48 (.cons (.var 0) (.cons (.var 1) (.cons (.var 3) .nil))))) .nil
def c_l_body_v1_16 : Ss := .cons (.ret (.tup (.cons (.lit (.str "say")) (.cons (.call 50 (.cons (.var 0) (.cons (.var 1) (.cons (.lit (.str "number")) (.cons (.bin .Sub false (.var 3) (.lit (.int 1))) .nil))))) .nil)))) .nil
def c_l_body_v1_8 : Ss := .cons (.ret (.tup (.cons (.var 5) (.cons (.call 50 (.cons (.var 0) (.cons (.var 1) (.cons (.lit (.str "number")) (.cons (.bin .Sub false (.var 3) (.lit (.int 1))) .nil))))) (.cons (.call 50 (.cons (.var 0) (.cons (.var 1) (.cons (.lit (.str "number")) (.cons (.bin .Sub false (.var 3) (.lit (.int 1))) .nil))))) .nil))))) .nil
def c_l_body_v1_7 : Ss := .cons (.asg (.name 5) (.idx (.lst false (.cons (.lit (.str "plus")) (.cons (.lit (.str "less")) (.cons (.lit (.str "times")) .nil)))) (.call 45 (.cons (.var 0) (.cons (.lit (.int 3)) .nil))))) c_l_body_v1_8
def c_l_body_v1_6 : Ss := .cons (.ite (.cmp .Eq (.var 4) (.lit (.int 8))) c_l_body_v1_16 .nil) c_l_body_v1_7
def c_l_body_v1_5 : Ss := .cons (.ite (.cmp .Lt (.var 4) (.lit (.int 8))) c_l_body_v1_15 .nil) c_l_body_v1_6
def c_l_body_v1_4 : Ss := .cons (.ite (.cmp .Eq (.var 2) (.lit (.str "way"))) c_l_body_v1_14 .nil) c_l_body_v1_5
def c_l_body_v1_3 : Ss := .cons (.ite (.cmp .Eq (.var 4) (.lit (.int 3))) c_l_body_v1_12 .nil) c_l_body_v1_4
def c_l_body_v1_2 : Ss := .cons (.ite (.cmp .Lt (.var 4) (.lit (.int 3))) c_l_body_v1_10 .nil) c_l_body_v1_3
def c_l_body_v1_1 : Ss := .cons (.ite (.bool false (.cons (.cmp .Lt (.var 3) (.lit (.int 1))) (.cons (.cmp .Lt (.var 4) (.lit (.int 2))) .nil))) c_l_body_v1_9 .nil) c_l_body_v1_2
def c_l_body_v1 : Ss := .cons (.asg (.name 4) (.call 45 (.cons (.var 0) (.cons (.lit (.int 10)) .nil)))) c_l_body_v1_1
def n_l_body_v1 : List Str := ["_law_h", "_law_e", "_law_kind", "_law_deep", "_law_turn", "_law_word", "_law_test", "_law_other"]
theorem Hs.at_ne {a s D : Addr} {M : Mh} (h : Hs a s M) (hD : M D = none) : D ≠ a ∧ D ≠ s := by
  obtain ⟨⟨x, t, cells, h1, h2, _⟩, _⟩ := h
  exact ⟨fun z => (by rw [z, h1] at hD; cases hD), fun z => (by rw [z, h2] at hD; cases hD)⟩
theorem Hs.up {a s D : Addr} {M : Mh} {o : MO} (h : Hs a s M) (h1 : D ≠ a) (h2 : D ≠ s) : Hs a s (mup M D o) := by
  obtain ⟨⟨x, t, cells, h3, h4, h5⟩, ne⟩ := h
  exact ⟨⟨x, t, cells, by rw [mup_off (Ne.symm h1)]; exact h3, by rw [mup_off (Ne.symm h2)]; exact h4, h5⟩, ne⟩
theorem Hs.del {a s D : Addr} {M : Mh} (h : Hs a s M) (h1 : D ≠ a) (h2 : D ≠ s) : Hs a s (mdel M D) := by
  obtain ⟨⟨x, t, cells, h3, h4, h5⟩, ne⟩ := h
  exact ⟨⟨x, t, cells, by unfold mdel; rw [if_neg (Ne.symm h1)]; exact h3, by unfold mdel; rw [if_neg (Ne.symm h2)]; exact h4, h5⟩, ne⟩
theorem use_next (n : Nat) {k : Nat} {i : Int} {a s : Addr} {M : Mh} {Q : QW} {Ex : QX} (hs : Hs a s M) (hi : i = n) (h0 : 0 < n) (h1 : n < 1073741824) (q : ∀ (r : Nat) M', r < n → Hs a s M' → Fr a s M M' → Q (.int r) M') : sp_l_next k [.ref a, .int i] M Q Ex :=
  ⟨a, s, n, by rw [hi], hs, h0, h1, q⟩
theorem lc_nil {own : Bool} {G : Mh → Prop} {g : Tg} {tt : DT} {te : DE} {D : Addr} {σ : Sw} {acc : List W} {M : Mh} {Q : QW} : lcW own G g tt te D σ [] acc M Q = finL own D acc M Q := rfl
theorem lc_rng {a s D : Addr} {G : Mh → Prop} {g : Tg} {te : DE} {σ : Sw} {M0 : Mh} {Q : QW} (P : W → Prop) (hG : ∀ M, G M) (h0 : M0 D = none) (hs0 : Hs a s M0) : ∀ (xs acc : List W) (M : Mh), M D = some (.lst acc) → Hs a s M → Fr a s M0 M → (∀ y ∈ acc, P y) →
    (∀ x ∈ xs, ∀ M1 (K : QW), Hs a s M1 → Fr a s M0 M1 → (∀ y M2, P y → Hs a s M2 → Fr a s M1 M2 → K y M2) → ∃ σ', g.asg x σ = some σ' ∧ te σ' M1 K noX) →
    (∀ ys M2, ys.length = acc.length + xs.length → (∀ y ∈ ys, P y) → Hs a s M2 → Fr a s M0 M2 → Q (.lst ys) M2) → lcW false G g dYes te D σ xs acc M Q
  | [], acc, M, hD, hs, hf, hP, _, q => by
    obtain ⟨n1, n2⟩ := hs0.at_ne h0
    refine ⟨hD, q acc _ (by simp) hP (hs.del n1 n2) fun b o hb h1 h2 => ?_⟩
    unfold mdel
    rw [if_neg (fun z => by rw [z, h0] at hb; cases hb)]
    exact hf b o hb h1 h2
  | x :: xs, acc, M, hD, hs, hf, hP, st, q => by
    obtain ⟨n1, n2⟩ := hs0.at_ne h0
    obtain ⟨σ', e, t⟩ := st x (by simp) M (fun y M2 => M2 D = some (.lst acc) ∧ G (mup M2 D (.lst (acc ++ [y]))) ∧ lcW false G g dYes te D σ xs (acc ++ [y]) (mup M2 D (.lst (acc ++ [y]))) Q) hs hf fun y M2 py hs2 fr => by
      refine ⟨fr D _ hD n1 n2, hG _, lc_rng P hG h0 hs0 xs (acc ++ [y]) _ mup_at (hs2.up n1 n2) (fun b o hb h1 h2 => ?_) (fun z hz => ?_) (fun z hz => st z (List.mem_cons_of_mem _ hz)) fun ys M2 hl => q ys M2 (by rw [hl, List.length_append, List.length_cons, List.length_cons, List.length_nil]; omega)⟩
      · rw [mup_off (fun z => by rw [z, h0] at hb; cases hb)]
        exact fr b o (hf b o hb h1 h2) h1 h2
      · rcases List.mem_append.mp hz with z1 | z1
        · exact hP z z1
        · rw [List.mem_singleton.mp z1]; exact py
    exact ⟨σ', e, hD, hG _, t⟩
theorem lc_rng0 {a s : Addr} {G : Mh → Prop} {g : Tg} {te : DE} {σ : Sw} {M : Mh} {Q : QW} (P : W → Prop) (hG : ∀ M, G M) (hs : Hs a s M) {xs : List W}
    (st : ∀ x ∈ xs, ∀ M1 (K : QW), Hs a s M1 → Fr a s M M1 → (∀ y M2, P y → Hs a s M2 → Fr a s M1 M2 → K y M2) → ∃ σ', g.asg x σ = some σ' ∧ te σ' M1 K noX)
    (q : ∀ ys M2, ys.length = xs.length → (∀ y ∈ ys, P y) → Hs a s M2 → Fr a s M M2 → Q (.lst ys) M2) : ∀ D, M D = none → lcW false G g dYes te D σ xs [] (mup M D (.lst [])) Q := fun D hD => by
  obtain ⟨n1, n2⟩ := hs.at_ne hD
  exact lc_rng P hG hD hs xs [] _ mup_at (hs.up n1 n2) (fun b o hb h1 h2 => by rw [mup_off (fun z => by rw [z, hD] at hb; cases hb)]; exact hb) (by simp) st fun ys M2 hl => q ys M2 (by simpa using hl)
def kW (b : Bool) : W := .str (if b then "number" else "way")
structure Ev where
  came : Bool
  plain : List Nat
  kinds : List Bool
def Ev.enc (e : Ev) : W := .dk [.inr "came", .inr "plain", .inr "kinds"] [kW e.came, .lst (e.plain.map fun f : Nat => W.int f), .lst (e.kinds.map kW)]
structure Ev.Ok (e : Ev) : Prop where
  ne : 1 ≤ e.plain.length
  lt : ∀ f ∈ e.plain, f < e.kinds.length
  p8 : e.plain.length ≤ 8
  l1 : 1 ≤ e.kinds.length
  l8 : e.kinds.length ≤ 8
theorem dl_came {M : Mh} {e : Ev} : dlook M e.enc (.str "came") = some (some (kW e.came)) := rfl
theorem dl_plain {M : Mh} {e : Ev} : dlook M e.enc (.str "plain") = some (some (.lst (e.plain.map fun f : Nat => W.int f))) := rfl
theorem dl_kinds {M : Mh} {e : Ev} : dlook M e.enc (.str "kinds") = some (some (.lst (e.kinds.map kW))) := rfl
theorem way_number : (("way" : Str) = "number") = False := eq_false (by decide)
theorem number_way : (("number" : Str) = "way") = False := eq_false (by decide)
theorem kW_t : kW true = .str "number" := rfl
theorem kW_f : kW false = .str "way" := rfl
theorem kW_number {b : Bool} {M : Mh} {Q : QW} : eqV_ (kW b) (.str "number") M Q = Q (.bl b) M := by
  cases b
  · rw [kW_f, eq_str]; simp [way_number]
  · rw [kW_t, eq_str]; simp
theorem kW_way {b : Bool} {M : Mh} {Q : QW} : eqV_ (kW b) (.str "way") M Q = Q (.bl (!b)) M := by
  cases b
  · rw [kW_f, eq_str]; simp
  · rw [kW_t, eq_str]; simp [number_way]
theorem kW_kW {b c : Bool} {M : Mh} {Q : QW} : eqV_ (kW b) (kW c) M Q = Q (.bl (b == c)) M := by
  cases c
  · rw [kW_f, kW_way]; cases b <;> rfl
  · rw [kW_t, kW_number]; cases b <;> rfl
theorem pick {ws : List W} {r : Nat} (h : r < ws.length) : atI ws (r : Int) = some ws[r] := atN (List.getElem?_eq_getElem h)
def BdIn (m h : Nat) (w : W) : Prop := ∃ b : Bd, w = b.enc ∧ b.ok m ∧ b.ht ≤ h
theorem BdIn.mono {m h h' : Nat} {w : W} (x : BdIn m h w) (l : h ≤ h') : BdIn m h' w := by
  obtain ⟨b, h1, h2, h3⟩ := x
  exact ⟨b, h1, h2, Nat.le_trans h3 l⟩
def LfIn (m : Nat) (w : W) : Prop := ∃ b : Bd, w = b.enc ∧ b.ok m ∧ b.ht = 0 ∧ b.cnt = 1
theorem LfIn.bd {m h : Nat} {w : W} (x : LfIn m w) : BdIn m h w := by
  obtain ⟨b, h1, h2, h3, _⟩ := x
  exact ⟨b, h1, h2, by omega⟩
def sp_l_leaf_v1 : Nat → Wp := fun k ws M Q _ => ∃ (a s : Addr) (e : Ev) (kd : Bool), ws = [.ref a, e.enc, kW kd] ∧ Hs a s M ∧ e.Ok ∧ 1 ≤ k ∧ ∀ w M', LfIn e.kinds.length w → Hs a s M' → Fr a s M M' → Q w M'
theorem keep_l_leaf_v1 {Γ : Gam} {k : Nat} (f_l_next : Γ.fn 45 = dn sp_l_next k) : KeepC Γ n_l_leaf_v1 3 c_l_leaf_v1 (sp_l_leaf_v1 k) := by
  rintro ws M Q Ex ⟨a, s, e, kd, rfl, hs, ok, hk, q⟩
  refine ⟨rfl, ?_⟩
  show dSs Γ _ _ [some (.ref a), some e.enc, some (kW kd), none, none] M
  cases k with
  | zero => omega
  | succ k =>
  simp only [evs_, c_l_leaf_v1, dl_came, kW_kW]
  have key : ∀ L : List W, L.length ≤ 3 → (∀ w ∈ L, LfIn e.kinds.length w) → dSs Γ c_l_leaf_v1_1 { nx := fun x M' => Q W.non M', rt := Q, ex := Ex } [some (W.ref a), some e.enc, some (kW kd), some (.lst L), none] M := by
    intro L hL hP
    have fin : ∀ (L : List W) (x : Option W) M', 1 ≤ L.length → L.length ≤ 5 → (∀ w ∈ L, LfIn e.kinds.length w) → Hs a s M' → Fr a s M M' → dSs Γ c_l_leaf_v1_2 { nx := fun x M' => Q W.non M', rt := Q, ex := Ex } [some (W.ref a), some e.enc, some (kW kd), some (.lst L), x] M' := by
      intro L x M' h1 h5 hP hs1 fr
      simp only [evs_, c_l_leaf_v1_2, f_l_next, dn]
      refine use_next L.length hs1 rfl (by omega) (by omega) fun r M2 hr hs2 fr2 => ?_
      simp only [evs_, pick hr]
      exact q _ _ (hP _ (List.getElem_mem hr)) hs2 (fr.trans fr2)
    simp only [evs_, c_l_leaf_v1_1, c_l_leaf_v1_3, c_l_leaf_v1_4, kW_number, f_l_next, dn]
    by_cases h : kd = true
    · simp only [h, if_true]
      refine use_next 4 hs rfl (by decide) (by decide) fun r1 M1 hr1 hs1 fr1 => ?_
      refine use_next 100 hs1 rfl (by decide) (by decide) fun r2 M2 hr2 hs2 fr2 => ?_
      refine ⟨by decide, use_next 2 hs2 rfl (by decide) (by decide) fun r3 M3 hr3 hs3 fr3 => ?_⟩
      obtain ⟨r4, h4, hr4⟩ : ∃ r4 : Nat, atI [W.int r1, W.int r2] (r3 : Int) = some (.int r4) ∧ r4 ≤ 99 := by
        cases r3 with
        | zero => exact ⟨r1, rfl, by omega⟩
        | succ r3 => cases r3 with
          | zero => exact ⟨r2, rfl, by omega⟩
          | succ r3 => omega
      simp only [evs_, h4]
      refine ⟨by decide, by decide, szl (by omega), fin _ _ _ (by simp) (by simp; omega) (fun w hw => ?_) hs3 ((fr1.trans fr2).trans fr3)⟩
      rcases List.mem_append.mp hw with z | z
      · exact hP w z
      · rw [List.mem_singleton.mp z]
        exact ⟨.num r4, rfl, hr4, rfl, rfl⟩
    · have h : kd = false := by simpa using h
      subst h
      rw [if_neg Bool.false_ne_true]
      have hl : (e.plain.map fun f : Nat => W.int f).length = e.plain.length := by simp
      simp only [evs_, dLc, wipeW, dl_plain, hl]
      refine ⟨by decide, by decide, by decide, lc_rng0 (LfIn e.kinds.length) (fun _ => trivial) hs (fun x hx M1 K hs1 fr1 hK => ?_) fun ys M2 hl2 hy hs2 fr => ?_⟩
      · simp only [evs_, dl_plain, hl]
        refine use_next e.plain.length hs1 rfl (by have := ok.ne; omega) (by have := ok.p8; omega) fun r M2 hr hs2 fr2 => ?_
        have hr' : r < (e.plain.map fun f : Nat => W.int f).length := by rw [hl]; exact hr
        simp only [evs_, pick hr', List.getElem_map]
        exact ⟨by decide, hK _ _ ⟨.way e.plain[r], rfl, ok.lt _ (List.getElem_mem hr), rfl, rfl⟩ hs2 fr2⟩
      · have l2 : ys.length = 2 := by rw [hl2]; decide
        simp only [evs_, dX]
        refine ⟨szl (by omega), fin _ _ _ (by simp; omega) (by simp; omega) (fun w hw => ?_) hs2 fr⟩
        rcases List.mem_append.mp hw with z | z
        · exact hP w z
        · exact hy w z
  have r3 : (List.replicate (Int.toNat 3) [W.tup [W.str (Str.ofString "argument")]]).flatten = [Bd.arg.enc, Bd.arg.enc, Bd.arg.enc] := rfl
  rw [r3]
  have la : LfIn e.kinds.length Bd.arg.enc := ⟨.arg, rfl, trivial, rfl, rfl⟩
  cases hb : (e.came == kd) with
  | true =>
    refine ⟨by decide, by decide, by decide, by decide, by decide, by decide, by decide, by decide, key _ (by decide) fun w hw => ?_⟩
    have : w = Bd.arg.enc := by simpa [List.replicate] using hw
    rw [this]; exact la
  | false =>
    refine ⟨by decide, by decide, by decide, by decide, by decide, by decide, by decide, by decide, key _ (by decide) fun w hw => ?_⟩
    have : False := by simpa [List.replicate] using hw
    exact this.elim
def sp_l_less : Nat → Wp := fun k ws M Q _ => ∃ (a s : Addr) (e : Ev) (d : Nat), ws = [.ref a, e.enc, .int d] ∧ Hs a s M ∧ e.Ok ∧ 3 * d + 3 ≤ k ∧ ∀ w M', BdIn e.kinds.length (d + 1) w → Hs a s M' → Fr a s M M' → Q w M'
def sp_l_call_v2 : Nat → Wp := fun k ws M Q _ => ∃ (a s : Addr) (e : Ev) (d : Nat), ws = [.ref a, e.enc, .int ((d : Int) + 1)] ∧ Hs a s M ∧ e.Ok ∧ 3 * d + 4 ≤ k ∧ ∀ w M', BdIn e.kinds.length (d + 2) w → Hs a s M' → Fr a s M M' → Q w M'
def sp_l_body_v1 : Nat → Wp := fun k ws M Q _ => ∃ (a s : Addr) (e : Ev) (kd : Bool) (d : Nat), ws = [.ref a, e.enc, kW kd, .int d] ∧ Hs a s M ∧ e.Ok ∧ 3 * d + 2 ≤ k ∧ ∀ w M', BdIn e.kinds.length (d + 1) w → Hs a s M' → Fr a s M M' → Q w M'
theorem use_less {k : Nat} {a s : Addr} {e : Ev} {d : Nat} {M : Mh} {Q : QW} {Ex : QX} (hs : Hs a s M) (ok : e.Ok) (hk : 3 * d + 3 ≤ k) (q : ∀ w M', BdIn e.kinds.length (d + 1) w → Hs a s M' → Fr a s M M' → Q w M') : sp_l_less k [.ref a, e.enc, .int d] M Q Ex := ⟨a, s, e, d, rfl, hs, ok, hk, q⟩
theorem use_call {k : Nat} {a s : Addr} {e : Ev} {d : Nat} {M : Mh} {Q : QW} {Ex : QX} (hs : Hs a s M) (ok : e.Ok) (hk : 3 * d + 4 ≤ k) (q : ∀ w M', BdIn e.kinds.length (d + 2) w → Hs a s M' → Fr a s M M' → Q w M') : sp_l_call_v2 k [.ref a, e.enc, .int ((d : Int) + 1)] M Q Ex := ⟨a, s, e, d, rfl, hs, ok, hk, q⟩
theorem use_body {k : Nat} {a s : Addr} {e : Ev} (kd : Bool) {kw : W} {d : Nat} {M : Mh} {Q : QW} {Ex : QX} (hw : kw = kW kd) (hs : Hs a s M) (ok : e.Ok) (hk : 3 * d + 2 ≤ k) (q : ∀ w M', BdIn e.kinds.length (d + 1) w → Hs a s M' → Fr a s M M' → Q w M') : sp_l_body_v1 k [.ref a, e.enc, kw, .int d] M Q Ex :=
  ⟨a, s, e, kd, d, by rw [hw], hs, ok, hk, q⟩
theorem use_leaf {k : Nat} {a s : Addr} {e : Ev} (kd : Bool) {kw : W} {M : Mh} {Q : QW} {Ex : QX} (hw : kw = kW kd) (hs : Hs a s M) (ok : e.Ok) (hk : 1 ≤ k) (q : ∀ w M', LfIn e.kinds.length w → Hs a s M' → Fr a s M M' → Q w M') : sp_l_leaf_v1 k [.ref a, e.enc, kw] M Q Ex :=
  ⟨a, s, e, kd, by rw [hw], hs, ok, hk, q⟩
theorem keep_l_less {Γ : Gam} {k : Nat} (f_l_next : Γ.fn 45 = dn sp_l_next k) (f_l_body_v1 : Γ.fn 50 = dn sp_l_body_v1 k) : KeepC Γ n_l_less 3 c_l_less (sp_l_less k) := by
  rintro ws M Q Ex ⟨a, s, e, d, rfl, hs, ok, hk, q⟩
  refine ⟨rfl, ?_⟩
  show dSs Γ _ _ [some (.ref a), some e.enc, some (.int d)] M
  cases k with
  | zero => omega
  | succ k =>
  simp only [evs_, c_l_less_2, c_l_less_1, c_l_less, dl_came, kW_number, f_l_next, f_l_body_v1, dn]
  have other : ∀ M', Hs a s M' → Fr a s M M' → sp_l_body_v1 k [W.ref a, e.enc, W.str (Str.ofString "number"), W.int d] M' Q Ex := fun M' hs' fr => use_body (Ex := Ex) true rfl hs' ok (by omega) fun w M2 hw hs2 fr2 => q w M2 hw hs2 (fr.trans fr2)
  by_cases h : e.came = true
  · rw [if_pos h]
    refine use_next 4 hs rfl (by decide) (by decide) fun r M1 hr hs1 fr1 => ?_
    simp only [evs_, dX]
    by_cases h0 : (0 : Int) < (r : Int)
    · simp only [h0, if_true]
      refine ⟨by decide, by decide, by decide, q _ _ ⟨.less .arg (.num 1), rfl, ⟨trivial, by show 1 ≤ 99; decide⟩, by show 1 ≤ _; omega⟩ hs1 fr1⟩
    · simp only [h0, if_false]
      exact other M1 hs1 fr1
  · rw [if_neg h, if_neg h]
    exact other M hs .refl
theorem kd_pick {kinds : List Bool} {r : Nat} (h : r < kinds.length) : atI (kinds.map kW) (r : Int) = some (kW kinds[r]) := by
  rw [pick (by simpa using h), List.getElem_map]
theorem two_pick {r : Nat} (h : r < 2) : ∃ b, atI [W.str (Str.ofString "number"), W.str (Str.ofString "way")] (r : Int) = some (kW b) := by
  cases r with
  | zero => exact ⟨true, rfl⟩
  | succ r => cases r with
    | zero => exact ⟨false, rfl⟩
    | succ r => omega
theorem keep_l_call_v2 {Γ : Gam} {k : Nat} (f_l_next : Γ.fn 45 = dn sp_l_next k) (f_l_body_v1 : Γ.fn 50 = dn sp_l_body_v1 k) (f_l_less : Γ.fn 49 = dn sp_l_less k) : KeepC Γ n_l_call_v2 3 c_l_call_v2 (sp_l_call_v2 k) := by
  rintro ws M Q Ex ⟨a, s, e, d, rfl, hs, ok, hk, q⟩
  refine ⟨rfl, ?_⟩
  show dSs Γ _ _ [some (.ref a), some e.enc, some (.int ((d : Int) + 1)), none, none, none] M
  cases k with
  | zero => omega
  | succ k =>
  simp only [evs_, c_l_call_v2, f_l_next, f_l_body_v1, f_l_less, dn]
  refine use_next 3 hs rfl (by decide) (by decide) fun r M1 hr hs1 fr1 => ?_
  have l1 := ok.l1
  have l8 := ok.l8
  simp only [evs_, eq_int]
  by_cases h0 : (r : Int) = 0
  · simp only [evs_, h0, if_true, c_l_call_v2_6, f_l_next, f_l_body_v1, f_l_less, dn, Int.add_sub_cancel]
    refine use_body (Ex := Ex) false rfl hs1 ok (by omega) fun w1 M2 hw1 hs2 fr2 => ?_
    refine use_less (Ex := Ex) hs2 ok (by omega) fun w2 M3 hw2 hs3 fr3 => ?_
    obtain ⟨b1, rfl, o1, g1⟩ := hw1
    obtain ⟨b2, rfl, o2, g2⟩ := hw2
    exact ⟨by decide, q _ _ ⟨.thr b1 b2, rfl, ⟨o1, o2⟩, by simp only [Bd.ht]; omega⟩ hs3 ((fr1.trans fr2).trans fr3)⟩
  · simp only [evs_, h0, if_false, c_l_call_v2_1, f_l_next, f_l_body_v1, f_l_less, dn, dl_kinds, List.length_map]
    refine use_next e.kinds.length hs1 rfl (by omega) (by omega) fun f M2 hf hs2 fr2 => ?_
    simp only [evs_, c_l_call_v2_2, c_l_call_v2_3, f_l_next, f_l_body_v1, f_l_less, dn, dl_kinds, kd_pick hf]
    refine use_next 12 hs2 rfl (by decide) (by decide) fun r3 M3 hr3 hs3 fr3 => ?_
    have tail : ∀ (kd : Bool) M', Hs a s M' → Fr a s M M' → dSs Γ c_l_call_v2_4 { nx := fun x M' => Q W.non M', rt := Q, ex := Ex } [some (.ref a), some e.enc, some (.int ((d : Int) + 1)), some (.int f), some (kW kd), none] M' := by
      intro kd M' hs' fr'
      simp only [evs_, c_l_call_v2_4, c_l_call_v2_5, kW_number, f_l_next, f_l_body_v1, f_l_less, dn, Int.add_sub_cancel]
      by_cases hk : kd = true
      · rw [if_pos hk]
        refine use_less (Ex := Ex) hs' ok (by omega) fun w M4 hw hs4 fr4 => ?_
        obtain ⟨b, rfl, o1, g1⟩ := hw
        exact ⟨by decide, q _ _ ⟨.call f b, rfl, ⟨hf, o1⟩, by simp only [Bd.ht]; omega⟩ hs4 (fr'.trans fr4)⟩
      · rw [if_neg hk]
        refine use_body (Ex := Ex) false rfl hs' ok (by omega) fun w M4 hw hs4 fr4 => ?_
        obtain ⟨b, rfl, o1, g1⟩ := hw
        exact ⟨by decide, q _ _ ⟨.call f b, rfl, ⟨hf, o1⟩, by simp only [Bd.ht]; omega⟩ hs4 (fr'.trans fr4)⟩
    simp only [evs_, eq_int]
    by_cases h3 : (r3 : Int) = 0
    · simp only [evs_, h3, if_true, c_l_call_v2_7, f_l_next, f_l_body_v1, f_l_less, dn]
      refine ⟨by decide, use_next 2 hs3 rfl (by decide) (by decide) fun r4 M4 hr4 hs4 fr4 => ?_⟩
      obtain ⟨b, hb⟩ := two_pick hr4
      simp only [evs_, hb]
      exact tail b _ hs4 (((fr1.trans fr2).trans fr3).trans fr4)
    · simp only [h3, if_false]
      exact tail _ _ hs3 ((fr1.trans fr2).trans fr3)
def wordW (r : Nat) : Str := if r = 0 then "plus" else if r = 1 then "less" else "times"
theorem three_pick {r : Nat} (h : r < 3) : atI [W.str (Str.ofString "plus"), W.str (Str.ofString "less"), W.str (Str.ofString "times")] (r : Int) = some (.str (wordW r)) := by
  cases r with
  | zero => rfl
  | succ r => cases r with
    | zero => rfl
    | succ r => cases r with
      | zero => rfl
      | succ r => omega
theorem two_bd {m h r : Nat} {a b : Bd} (oa : a.ok m) (ob : b.ok m) (ha : a.ht ≤ h) (hb : b.ht ≤ h) : BdIn m (h + 1) (.tup [.str (wordW r), a.enc, b.enc]) := by
  unfold wordW
  by_cases h0 : r = 0
  · rw [if_pos h0]
    exact ⟨.plus a b, rfl, ⟨oa, ob⟩, by simp only [Bd.ht]; omega⟩
  · rw [if_neg h0]
    by_cases h1 : r = 1
    · rw [if_pos h1]
      exact ⟨.less a b, rfl, ⟨oa, ob⟩, by simp only [Bd.ht]; omega⟩
    · rw [if_neg h1]
      exact ⟨.times a b, rfl, ⟨oa, ob⟩, by simp only [Bd.ht]; omega⟩
theorem keep_l_body_v1 {Γ : Gam} {k : Nat} (f_l_next : Γ.fn 45 = dn sp_l_next k) (f_l_leaf_v1 : Γ.fn 47 = dn sp_l_leaf_v1 k) (f_l_body_v1 : Γ.fn 50 = dn sp_l_body_v1 k) (f_l_call_v2 : Γ.fn 48 = dn sp_l_call_v2 k) : KeepC Γ n_l_body_v1 4 c_l_body_v1 (sp_l_body_v1 k) := by
  rintro ws M Q Ex ⟨a, s, e, kd, d, rfl, hs, ok, hk, q⟩
  refine ⟨rfl, ?_⟩
  show dSs Γ _ _ [some (.ref a), some e.enc, some (kW kd), some (.int d), none, none, none, none] M
  cases k with
  | zero => omega
  | succ k =>
  simp only [evs_, c_l_body_v1, f_l_next, f_l_leaf_v1, f_l_body_v1, f_l_call_v2, dn]
  refine use_next 10 hs rfl (by decide) (by decide) fun r M1 hr hs1 fr1 => ?_
  simp only [evs_, c_l_body_v1_1]
  by_cases hd : (d : Int) < 1
  · simp only [evs_, hd, if_true, decide_true, c_l_body_v1_9, f_l_next, f_l_leaf_v1, f_l_body_v1, f_l_call_v2, dn]
    exact use_leaf (Ex := Ex) kd rfl hs1 ok (by omega) fun w M2 hw hs2 fr2 => q w M2 hw.bd hs2 (fr1.trans fr2)
  obtain ⟨d', rfl⟩ : ∃ d', d = d' + 1 := ⟨d - 1, by omega⟩
  simp only [evs_, hd, if_false, decide_false]
  by_cases h2 : (r : Int) < 2
  · simp only [evs_, h2, if_true, decide_true, c_l_body_v1_9, f_l_next, f_l_leaf_v1, f_l_body_v1, f_l_call_v2, dn]
    exact use_leaf (Ex := Ex) kd rfl hs1 ok (by omega) fun w M2 hw hs2 fr2 => q w M2 hw.bd hs2 (fr1.trans fr2)
  simp only [evs_, h2, if_false, decide_false, c_l_body_v1_2]
  by_cases h3 : (r : Int) < 3
  · simp only [evs_, h3, if_true, decide_true, c_l_body_v1_10, c_l_body_v1_11, f_l_next, f_l_leaf_v1, f_l_body_v1, f_l_call_v2, dn, Int.add_sub_cancel]
    refine use_body (Ex := Ex) true rfl hs1 ok (by omega) fun w1 M2 hw1 hs2 fr2 => ?_
    refine use_body (Ex := Ex) kd rfl hs2 ok (by omega) fun w2 M3 hw2 hs3 fr3 => ?_
    refine use_body (Ex := Ex) kd rfl hs3 ok (by omega) fun w3 M4 hw3 hs4 fr4 => ?_
    obtain ⟨b1, rfl, o1, g1⟩ := hw1
    obtain ⟨b2, rfl, o2, g2⟩ := hw2
    obtain ⟨b3, rfl, o3, g3⟩ := hw3
    exact ⟨by decide, q _ _ ⟨.iff b1 b2 b3, rfl, ⟨o1, o2, o3⟩, by simp only [Bd.ht]; omega⟩ hs4 (((fr1.trans fr2).trans fr3).trans fr4)⟩
  simp only [evs_, h3, if_false, decide_false, c_l_body_v1_3]
  by_cases h4 : (r : Int) = 3
  · simp only [evs_, h4, if_true, decide_true, c_l_body_v1_12, c_l_body_v1_13, f_l_next, f_l_leaf_v1, f_l_body_v1, f_l_call_v2, dn, Int.add_sub_cancel]
    refine ⟨by decide, use_next 2 hs1 rfl (by decide) (by decide) fun r2 M2 hr2 hs2 fr2 => ?_⟩
    obtain ⟨b, hb⟩ := two_pick hr2
    simp only [evs_, hb, f_l_next, f_l_leaf_v1, f_l_body_v1, f_l_call_v2, dn, Int.add_sub_cancel]
    refine use_body (Ex := Ex) b rfl hs2 ok (by omega) fun w1 M3 hw1 hs3 fr3 => ?_
    refine use_body (Ex := Ex) kd rfl hs3 ok (by omega) fun w2 M4 hw2 hs4 fr4 => ?_
    obtain ⟨b1, rfl, o1, g1⟩ := hw1
    obtain ⟨b2, rfl, o2, g2⟩ := hw2
    exact ⟨by decide, q _ _ ⟨.thn b1 b2, rfl, ⟨o1, o2⟩, by simp only [Bd.ht]; omega⟩ hs4 (((fr1.trans fr2).trans fr3).trans fr4)⟩
  simp only [evs_, h4, if_false, decide_false, c_l_body_v1_4, kW_way]
  cases kd with
  | false =>
    simp only [evs_, c_l_body_v1_14, f_l_next, f_l_leaf_v1, f_l_body_v1, f_l_call_v2, dn]
    exact use_leaf (Ex := Ex) false rfl hs1 ok (by omega) fun w M2 hw hs2 fr2 => q w M2 hw.bd hs2 (fr1.trans fr2)
  | true =>
  simp only [evs_, c_l_body_v1_5]
  by_cases h8 : (r : Int) < 8
  · simp only [evs_, h8, if_true, decide_true, c_l_body_v1_15, f_l_next, f_l_leaf_v1, f_l_body_v1, f_l_call_v2, dn]
    exact use_call (Ex := Ex) hs1 ok (by omega) fun w M2 hw hs2 fr2 => q w M2 hw hs2 (fr1.trans fr2)
  simp only [evs_, h8, if_false, decide_false, c_l_body_v1_6]
  by_cases h9 : (r : Int) = 8
  · simp only [evs_, h9, if_true, decide_true, c_l_body_v1_16, f_l_next, f_l_leaf_v1, f_l_body_v1, f_l_call_v2, dn, Int.add_sub_cancel]
    refine use_body (Ex := Ex) true rfl hs1 ok (by omega) fun w1 M2 hw1 hs2 fr2 => ?_
    obtain ⟨b1, rfl, o1, g1⟩ := hw1
    exact ⟨by decide, q _ _ ⟨.say b1, rfl, o1, by simp only [Bd.ht]; omega⟩ hs2 (fr1.trans fr2)⟩
  simp only [evs_, h9, if_false, decide_false, c_l_body_v1_7, f_l_next, f_l_leaf_v1, f_l_body_v1, f_l_call_v2, dn]
  refine ⟨by decide, use_next 3 hs1 rfl (by decide) (by decide) fun r2 M2 hr2 hs2 fr2 => ?_⟩
  simp only [evs_, c_l_body_v1_8, three_pick hr2, f_l_next, f_l_leaf_v1, f_l_body_v1, f_l_call_v2, dn, Int.add_sub_cancel]
  refine use_body (Ex := Ex) true rfl hs2 ok (by omega) fun w1 M3 hw1 hs3 fr3 => ?_
  refine use_body (Ex := Ex) true rfl hs3 ok (by omega) fun w2 M4 hw2 hs4 fr4 => ?_
  obtain ⟨b1, rfl, o1, g1⟩ := hw1
  obtain ⟨b2, rfl, o2, g2⟩ := hw2
  exact ⟨by decide, q _ _ (two_bd o1 o2 g1 g2) hs4 (((fr1.trans fr2).trans fr3).trans fr4)⟩
end WL
namespace WL
open PySem L2
local macro_rules | `(tactic| simp only [evs_, $xs,*]) => `(tactic| simp only [dX, dXs, dXo, dXi, dSc, d2, d1, dN, dVar, dC, dTup, dLst, dTru, dB, dChain, dIte, dNotV, dNotT, dJoinV, dJoinT, dNil, dCons, dCall, dBM, dIsi, dIsi2, dAttr, dMeth, dNew, dDget, dDin, dDnew, dKidx, dKin, dKget, dDisp, dFrz, dRev, dLrg, dSset, dSlice, dNoPart, dPart, dDfz, dRaise, dTry, dCatch, dKind, isx_eq, xfl_eq, dIsc, Gam.low, dAsg, dExpr, dRet, dIf, dFld, dSet, dDput, dNever, dFor, dNext, binP, cmpP, iSeqD, iRg1, iRg2, iZip, iEnumD, Tg.asg, setAll, List.set, List.map_cons, List.map_nil, subW, modW, fdivW, powW, ltW, leW, gtW, geW, newL, finD, frzO, tupW, listW, oneW, twoW, BI.w, ints_eq, add_int, add_str, add_tup, add_lst, mul_int, mul_lst, mul_tup, idx_tup, idx_lst, idx_scr, idx_str, len_tup, len_lst, len_scr, len_str, sl_tup, sl_lst, neg_int, str_int, str_str, int_int, int_bl, is_non, is_int, is_str, is_tup, is_lst, is_bl, is_bb, dss_cons, eq_int, eq_str, eq_bl, ne_int, ne_str, ne_bl, eq_nilL, ty_non, ty_bl, ty_int, ty_str, ty_tup, ty_lst, ty_scr, ty_dk, Ty.sub, tr_bl, tr_non, tr_int, tr_str, sv_lst, sv_tup, sv_scr, lv_lst, at0, at1, at2, cut1, len0, ss_nil, for_nil, for_cons, pairs_cons, pairs_nil, pairs_nil', walk_lst, walk_scr, walk_tup, walk_str, walk_ref, List.getElem?_cons_zero, List.getElem?_cons_succ, List.length_cons, List.length_nil, List.append_nil, List.cons_append, List.nil_append, Option.some.injEq, W.int.injEq, W.str.injEq, W.bl.injEq, W.tup.injEq, W.lst.injEq, W.ref.injEq, List.cons.injEq, Option.map_some, exists_and_left, exists_and_right, exists_eq_left, exists_eq_left', exists_eq, exists_eq', exists_eq_right, exists_eq_right', and_true, true_and, and_assoc, reduceIte, reduceCtorEq, decide_true, decide_false, decide_eq_true_eq, decide_eq_false_iff_not, Bool.not_eq_true', Bool.not_eq_false', Bool.true_eq_false, Bool.false_eq_true, if_true, if_false, Bool.not_true, Bool.not_false, ite_true, ite_false, Int.cast_ofNat_Int, Int.reduceAdd, Int.reduceSub, Int.reduceEq, Int.reduceLT, Int.reduceLE, Int.natCast_add, Nat.reduceEqDiff, Nat.reduceAdd, Nat.add_zero, Nat.zero_add, Nat.succ_ne_zero, not_true_eq_false, not_false_eq_true, Option.getD_some, Option.getD_none, Option.isSome_some, Option.isSome_none, $xs,*])
def c_l_words : Ss := .cons (.ret (.bin .Add false (.lit (.int 1)) (.blt false .sum (.cons (.lc false (.call 51 (.cons (.var 1) .nil)) (.name 1) (.seq (.var 0)) (.some (.isi .tup (.var 1))) [("_law_arm", 1)]) .nil)))) .nil
def n_l_words : List Str := ["_law_body_here", "_law_arm"]
def c_l_program_10 : Ss := .cons (.asg (.name 7) (.tup (.cons (.lit (.str "if")) (.cons (.tup (.cons (.lit (.str "argument")) .nil)) (.cons (.var 7) (.cons (.call 47 (.cons (.var 0) (.cons (.var 6) (.cons (.lit (.str "number")) .nil)))) .nil)))))) .nil
def c_l_program_11 : Ss := .cons (.asg (.name 7) (.call 47 (.cons (.var 0) (.cons (.var 6) (.cons (.lit (.str "number")) .nil))))) .nil
def c_l_program_9 : Ss := .cons (.expr (.bm true .append (.var 4) (.cons (.tup (.cons (.bin .Add false (.lit (.int 1)) (.call 45 (.cons (.var 0) (.cons (.idx (.lst false (.cons (.lit (.int 2)) (.cons (.lit (.int 8)) .nil))) (.call 45 (.cons (.var 0) (.cons (.lit (.int 2)) .nil)))) .nil)))) (.cons (.var 7) .nil))) .nil))) .nil
def c_l_program_8 : Ss := .cons (.ite (.cmp .Gt (.call 51 (.cons (.var 7) .nil)) (.lit (.int 40))) c_l_program_11 .nil) c_l_program_9
def c_l_program_7 : Ss := .cons (.ite (.bool true (.cons (.cmp .Eq (.var 5) (.lit (.str "number"))) (.cons (.cmp .Gt (.call 45 (.cons (.var 0) (.cons (.lit (.int 4)) .nil))) (.lit (.int 0))) .nil))) c_l_program_10 .nil) c_l_program_8
def c_l_program_6 : Ss := .cons (.asg (.name 7) (.call 50 (.cons (.var 0) (.cons (.var 6) (.cons (.idx (.lst false (.cons (.lit (.str "number")) (.cons (.lit (.str "number")) (.cons (.lit (.str "number")) (.cons (.lit (.str "way")) .nil))))) (.call 45 (.cons (.var 0) (.cons (.lit (.int 4)) .nil)))) (.cons (.bin .Add false (.lit (.int 2)) (.call 45 (.cons (.var 0) (.cons (.lit (.int 3)) .nil)))) .nil)))))) c_l_program_7
def c_l_program_5 : Ss := .cons (.asg (.name 6) (.disp false ["came", "plain", "kinds"] (.cons (.var 5) (.cons (.var 3) (.cons (.var 2) .nil))))) c_l_program_6
def c_l_program_4 : Ss := .cons (.ret (.blt false .tup (.cons (.var 4) .nil))) .nil
def c_l_program_3 : Ss := .cons (.for_ (.name 5) (.seq (.var 2)) c_l_program_5) c_l_program_4
def c_l_program_2 : Ss := .cons (.asg (.name 4) (.lst true .nil)) c_l_program_3
def c_l_program_1 : Ss := .cons (.asg (.name 3) (.lc false (.var 8) (.name 8) (.rg1 (.blt false .len (.cons (.var 2) .nil))) (.some (.cmp .Eq (.idx (.var 2) (.var 8)) (.lit (.str "number")))) [("_law_k", 8)])) c_l_program_2
def c_l_program : Ss := .cons (.asg (.name 2) (.bin .Add false (.lst false (.cons (.lit (.str "number")) .nil)) (.lc false (.idx (.lst false (.cons (.lit (.str "number")) (.cons (.lit (.str "number")) (.cons (.lit (.str "way")) .nil)))) (.call 45 (.cons (.var 0) (.cons (.lit (.int 3)) .nil)))) (.name 8) (.rg1 (.call 45 (.cons (.var 0) (.cons (.var 1) .nil)))) .none [("_law_k", 8)]))) c_l_program_1
def n_l_program : List Str := ["_law_h", "_law_most", "_law_kinds", "_law_plain", "_law_found", "_law_came", "_law_e", "_law_body_here", "_law_k"]
def c_l_text : Ss := .cons (.ret (.bm false .join (.lit (.str " ")) (.cons (.lc false (.ite (.isi .tup (.var 1)) (.call 94 (.cons (.var 1) .nil)) (.blt false .str (.cons (.var 1) .nil))) (.name 1) (.seq (.var 0)) .none [("_law_arm", 1)]) .nil))) .nil
def n_l_text : List Str := ["_law_body_here", "_law_arm"]
def Bd.args : Bd → List Bd
  | .plus a b => [a, b]
  | .less a b => [a, b]
  | .times a b => [a, b]
  | .iff a b c => [a, b, c]
  | .thn a b => [a, b]
  | .say a => [a]
  | .call _ a => [a]
  | .thr a b => [a, b]
  | _ => []
def Bd.parts (f : Bd → Option W) (g : W → Option W) : Bd → List (W × Option W)
  | .num n => [(.str "num", g (.str "num")), (.int n, g (.int n))]
  | .arg => [(.str "argument", g (.str "argument"))]
  | .way n => [(.str "way", g (.str "way")), (.int n, g (.int n))]
  | .plus a b => [(.str "plus", g (.str "plus")), (a.enc, f a), (b.enc, f b)]
  | .less a b => [(.str "less", g (.str "less")), (a.enc, f a), (b.enc, f b)]
  | .times a b => [(.str "times", g (.str "times")), (a.enc, f a), (b.enc, f b)]
  | .iff a b c => [(.str "if", g (.str "if")), (a.enc, f a), (b.enc, f b), (c.enc, f c)]
  | .thn a b => [(.str "then", g (.str "then")), (a.enc, f a), (b.enc, f b)]
  | .say a => [(.str "say", g (.str "say")), (a.enc, f a)]
  | .call n a => [(.str "call", g (.str "call")), (.int n, g (.int n)), (a.enc, f a)]
  | .thr a b => [(.str "through", g (.str "through")), (a.enc, f a), (b.enc, f b)]
theorem Bd.parts_ws {f : Bd → Option W} {g : W → Option W} (b : Bd) : b.ws = (b.parts f g).map (·.1) := by cases b <;> rfl
theorem Bd.parts_in {f : Bd → Option W} {g : W → Option W} {b : Bd} {p : W × Option W} (h : p ∈ b.parts f g) : (∃ a ∈ b.args, p = (a.enc, f a)) ∨ (∃ s, p = (.str s, g (.str s))) ∨ ∃ n : Nat, p = (.int n, g (.int n)) := by
  cases b <;> simp only [Bd.parts, List.mem_cons, List.not_mem_nil, or_false] at h
  case arg => subst h; exact .inr (.inl ⟨_, rfl⟩)
  case iff a b c => rcases h with rfl | rfl | rfl | rfl <;> first | exact .inr (.inl ⟨_, rfl⟩) | exact .inl ⟨_, by simp [Bd.args], rfl⟩
  all_goals first
    | (rcases h with rfl | rfl | rfl <;> first | exact .inr (.inl ⟨_, rfl⟩) | exact .inr (.inr ⟨_, rfl⟩) | exact .inl ⟨_, by simp [Bd.args], rfl⟩)
    | (rcases h with rfl | rfl <;> first | exact .inr (.inl ⟨_, rfl⟩) | exact .inr (.inr ⟨_, rfl⟩) | exact .inl ⟨_, by simp [Bd.args], rfl⟩)
theorem Bd.args_ht {b a : Bd} (h : a ∈ b.args) : a.ht + 1 ≤ b.ht := by
  cases b <;> simp only [Bd.args, List.mem_cons, List.not_mem_nil, or_false] at h
  case iff => rcases h with rfl | rfl | rfl <;> simp only [Bd.ht] <;> omega
  case say => subst h; simp only [Bd.ht]; omega
  case call => subst h; simp only [Bd.ht]; omega
  all_goals (rcases h with rfl | rfl <;> simp only [Bd.ht] <;> omega)
theorem Bd.ws_len (b : Bd) : b.ws.length ≤ 4 := by cases b <;> simp [Bd.ws]
def sp_l_words : Nat → Wp := fun k ws M Q _ => ∃ b : Bd, ws = [b.enc] ∧ b.ht ≤ k ∧ Q (.int b.cnt) M
theorem words_cnt (b : Bd) : ∃ ns : List Int, (b.parts (fun a => some (.int a.cnt)) (fun _ => none)).filterMap (·.2) = ns.map W.int ∧ (b.cnt : Int) = 1 + ns.sum := by
  cases b
  case num n => exact ⟨[], rfl, rfl⟩
  case arg => exact ⟨[], rfl, rfl⟩
  case way n => exact ⟨[], rfl, rfl⟩
  case iff a b c => exact ⟨[a.cnt, b.cnt, c.cnt], rfl, by simp [Bd.cnt]; omega⟩
  case say a => exact ⟨[a.cnt], rfl, by simp [Bd.cnt]⟩
  case call n a => exact ⟨[a.cnt], rfl, by simp [Bd.cnt]⟩
  all_goals
    rename_i a b
    exact ⟨[a.cnt, b.cnt], rfl, by simp [Bd.cnt]; omega⟩
theorem keep_l_words {Γ : Gam} {k : Nat} (f_l_words : Γ.fn 51 = dn sp_l_words k) : KeepC Γ n_l_words 1 c_l_words (sp_l_words k) := by
  rintro ws M Q Ex ⟨b, rfl, hk, q⟩
  refine ⟨rfl, ?_⟩
  show dSs Γ _ _ [some b.enc, none] M
  rw [Bd.enc_eq]
  simp only [evs_, c_l_words, dLc, wipeW, f_l_words]
  refine ⟨szl (by have := b.ws_len; omega), lc_of (b.parts (fun a => some (.int a.cnt)) (fun _ => none)) b.parts_ws (fun _ _ _ => trivial) (fun D hD p hp us => ?_) ?_⟩
  · refine ⟨_, rfl, ?_⟩
    rcases Bd.parts_in hp with ⟨a, ha, rfl⟩ | ⟨s, rfl⟩ | ⟨n, rfl⟩
    · have := Bd.args_ht ha
      cases k with
      | zero => omega
      | succ k =>
      refine ⟨fun R h => ?_, fun y hy R h => ?_⟩
      · rw [Bd.enc_eq]
        simp only [evs_, dX]
        exact h
      · cases hy
        simp only [evs_, dn]
        exact ⟨a, rfl, by omega, h⟩
    · exact ⟨fun R h => (by simp only [evs_, dX]; exact h), fun y hy => nomatch hy⟩
    · exact ⟨fun R h => (by simp only [evs_, dX]; exact h), fun y hy => nomatch hy⟩
  · obtain ⟨ns, h1, h2⟩ := words_cnt b
    rw [h1]
    refine ⟨ns, rfl, ?_⟩
    simp only [evs_, dX]
    rw [← h2]
    exact q
theorem kinds_of : ∀ {ys : List W}, (∀ y ∈ ys, ∃ b, y = kW b) → ∃ bs : List Bool, ys = bs.map kW
  | [], _ => ⟨[], rfl⟩
  | y :: ys, h => by
    obtain ⟨b, rfl⟩ := h y (by simp)
    obtain ⟨bs, rfl⟩ := kinds_of fun z hz => h z (List.mem_cons_of_mem _ hz)
    exact ⟨b :: bs, rfl⟩
theorem nnw_pick {r : Nat} (h : r < 3) : ∃ b, atI [W.str (Str.ofString "number"), W.str (Str.ofString "number"), W.str (Str.ofString "way")] (r : Int) = some (kW b) := by
  cases r with
  | zero => exact ⟨true, rfl⟩
  | succ r => cases r with
    | zero => exact ⟨true, rfl⟩
    | succ r => cases r with
      | zero => exact ⟨false, rfl⟩
      | succ r => omega
theorem nnnw_pick {r : Nat} (h : r < 4) : ∃ b, atI [W.str (Str.ofString "number"), W.str (Str.ofString "number"), W.str (Str.ofString "number"), W.str (Str.ofString "way")] (r : Int) = some (kW b) := by
  cases r with
  | zero => exact ⟨true, rfl⟩
  | succ r => cases r with
    | zero => exact ⟨true, rfl⟩
    | succ r => cases r with
      | zero => exact ⟨true, rfl⟩
      | succ r => cases r with
        | zero => exact ⟨false, rfl⟩
        | succ r => omega
theorem t8_pick {r : Nat} (h : r < 2) : ∃ n : Nat, atI [W.int 2, W.int 8] (r : Int) = some (.int n) ∧ 0 < n ∧ n ≤ 8 := by
  cases r with
  | zero => exact ⟨2, rfl, by decide, by decide⟩
  | succ r => cases r with
    | zero => exact ⟨8, rfl, by decide, by decide⟩
    | succ r => omega
def plainOf (kinds : List Bool) : List Nat := (List.range kinds.length).filter fun i => kinds[i]?.getD false
theorem plain_lt {kinds : List Bool} {f : Nat} (h : f ∈ plainOf kinds) : f < kinds.length := List.mem_range.mp (List.mem_filter.mp h).1
theorem plain_ne {bs : List Bool} : 1 ≤ (plainOf (true :: bs)).length := by
  have : 0 ∈ plainOf (true :: bs) := List.mem_filter.mpr ⟨List.mem_range.mpr (by simp), by simp⟩
  exact List.length_pos_of_mem this
theorem plain_le {kinds : List Bool} : (plainOf kinds).length ≤ kinds.length := by
  have := List.length_filter_le (fun i => kinds[i]?.getD false) (List.range kinds.length)
  simpa [plainOf] using this
def plainPs (kinds : List Bool) : List (W × Option W) := (List.range kinds.length).map fun i : Nat => (W.int i, if kinds[i]?.getD false then some (W.int i) else none)
theorem plainPs_fst {kinds : List Bool} : rangeL 0 kinds.length = (plainPs kinds).map (·.1) := by
  unfold rangeL plainPs
  simp [Function.comp]
theorem plainPs_snd {kinds : List Bool} : (plainPs kinds).filterMap (·.2) = (plainOf kinds).map fun f : Nat => W.int f := by
  unfold plainPs plainOf
  generalize List.range kinds.length = l
  induction l with
  | nil => rfl
  | cons i l ih =>
    rw [List.map_cons, List.filterMap_cons, List.filter_cons]
    cases h : kinds[i]?.getD false with
    | false => simpa [h] using ih
    | true => simpa [h] using ih
def sp_l_program : Nat → Wp := fun k ws M Q _ => ∃ (a s : Addr) (most : Nat), ws = [.ref a, .int most] ∧ Hs a s M ∧ 1 ≤ most ∧ most ≤ 8 ∧ 15 ≤ k ∧ ∀ p M', PrOk p → p.length ≤ most → Hs a s M' → Fr a s M M' → Q (encP p) M'
theorem keep_l_program {Γ : Gam} {k : Nat} (f_l_next : Γ.fn 45 = dn sp_l_next k) (f_l_body_v1 : Γ.fn 50 = dn sp_l_body_v1 k) (f_l_leaf_v1 : Γ.fn 47 = dn sp_l_leaf_v1 k) (f_l_words : Γ.fn 51 = dn sp_l_words k) : KeepC Γ n_l_program 2 c_l_program (sp_l_program k) := by
  rintro ws M Q Ex ⟨a, s, most, rfl, hs, hm1, hm8, hk, q⟩
  refine ⟨rfl, ?_⟩
  show dSs Γ _ _ [some (.ref a), some (.int most), none, none, none, none, none, none, none] M
  cases k with
  | zero => omega
  | succ k =>
  simp only [evs_, c_l_program, dLc, wipeW, f_l_next, f_l_body_v1, f_l_leaf_v1, f_l_words, dn]
  refine ⟨by decide, use_next most hs rfl (by omega) (by omega) fun r M1 hr hs1 fr1 => ?_⟩
  simp only [evs_, dX]
  refine ⟨by omega, by omega, by rw [rangeL_len]; exact szl (by omega), lc_rng0 (fun y => ∃ b, y = kW b) (fun _ => trivial) hs1 (fun x hx M2 K hs2 fr2 hK => ?_) fun ys M2 hl hP hs2 fr2 => ?_⟩
  · simp only [evs_, f_l_next, f_l_body_v1, f_l_leaf_v1, f_l_words, dn]
    refine ⟨by decide, use_next 3 hs2 rfl (by decide) (by decide) fun r2 M3 hr2 hs3 fr3 => ?_⟩
    obtain ⟨b, hb⟩ := nnw_pick hr2
    simp only [evs_, hb]
    exact hK _ _ ⟨b, rfl⟩ hs3 fr3
  obtain ⟨bs, rfl⟩ := kinds_of hP
  rw [rangeL_len, List.length_map] at hl
  have ek : W.str (Str.ofString "number") :: List.map kW bs = (true :: bs).map kW := rfl
  simp only [evs_, dX]
  rw [ek]
  refine ⟨szl (by rw [List.length_map]; omega), ?_⟩
  have hn : (true :: bs).length = r + 1 := by rw [List.length_cons, hl]
  have hpn : 1 ≤ (plainOf (true :: bs)).length := plain_ne
  generalize true :: bs = kinds at hn hpn
  have hf0 : Fr a s M M2 := fr1.trans fr2
  clear ek hP fr2 fr1 hs1 hs
  simp only [evs_, c_l_program_1, dLc, wipeW, List.length_map]
  refine ⟨by omega, by omega, by rw [rangeL_len]; exact szl (by omega), lc_of (plainPs kinds) plainPs_fst (fun _ _ _ => trivial) (fun D hD p hp us => ?_) ?_⟩
  · obtain ⟨i, hi, rfl⟩ := List.mem_map.mp hp
    have hi := List.mem_range.mp hi
    have e : kinds[i]?.getD false = kinds[i] := by rw [List.getElem?_eq_getElem hi]; rfl
    refine ⟨_, rfl, fun R h => ?_, fun y hy R h => ?_⟩
    · simp only [evs_, kd_pick hi, kW_number]
      simp only [e] at h
      cases hb : kinds[i] with
      | false => rw [hb] at h; exact h
      | true => rw [hb] at h; exact h
    · simp only [e] at hy
      cases hb : kinds[i] with
      | false => rw [hb] at hy; cases hy
      | true =>
        rw [hb] at hy
        cases hy
        simp only [evs_, dX]
        exact h
  rw [plainPs_snd]
  simp only [evs_, c_l_program_2]
  intro L hL
  obtain ⟨nL1, nL2⟩ := hs2.at_ne hL
  simp only [evs_, c_l_program_3]
  refine for_inv (fun i σ M' => (∃ x5 x6 x7 x8, σ = [some (W.ref a), some (W.int most), some (W.lst (kinds.map kW)), some (W.lst ((plainOf kinds).map fun f : Nat => W.int f)), some (W.ref L), x5, x6, x7, x8]) ∧ Hs a s M' ∧ Fr a s M2 M' ∧
    ∃ fs : List (Nat × Bd), M' L = some (.lst (fs.map encF)) ∧ fs.length = i ∧ ∀ f ∈ fs, FOk kinds.length f) (fun _ _ _ _ => trivial) _ 0 ?_ (fun i x σ M' K e h hK => ?_) (fun σ M' h => ?_)
  · refine ⟨⟨_, _, _, _, rfl⟩, hs2.up nL1 nL2, fun b o hb h1 h2 => ?_, [], mup_at, rfl, by simp⟩
    rw [mup_off (fun z => by rw [z, hL] at hb; cases hb)]
    exact hb
  · obtain ⟨⟨x5, x6, x7, x8, rfl⟩, hs3, fr3, fs, hfs, hlen, hok⟩ := h
    obtain ⟨kd, rfl⟩ : ∃ kd, x = kW kd := by
      obtain ⟨b, _, h⟩ := List.mem_map.mp (List.mem_of_getElem? e)
      exact ⟨b, h.symm⟩
    have hil : i < kinds.length := by
      have := (List.getElem?_eq_some_iff.mp e).1
      simpa using this
    simp only [evs_, c_l_program_5, dDisp, zipK]
    intro p hp
    rw [mdel_mup hp]
    refine ⟨mup_at, ?_⟩
    have evok : (Ev.mk kd (plainOf kinds) kinds).Ok := ⟨hpn, fun f hf => plain_lt hf, Nat.le_trans plain_le (by omega), by show 1 ≤ kinds.length; omega, by show kinds.length ≤ 8; omega⟩
    generalize hev : Ev.mk kd (plainOf kinds) kinds = ev at evok
    have hkl : ev.kinds.length = kinds.length := by rw [← hev]
    show dSs Γ c_l_program_6 _ [some (W.ref a), some (W.int most), some (W.lst (kinds.map kW)), some (W.lst ((plainOf kinds).map fun f : Nat => W.int f)), some (W.ref L), some (kW kd), some (Ev.mk kd (plainOf kinds) kinds).enc, x7, x8] M'
    rw [hev]
    have fin : ∀ (b : Bd) (y : Option W) M4, b.ok kinds.length → b.ht ≤ 6 → b.cnt ≤ 40 → Hs a s M4 → Fr a s M' M4 →
        dSs Γ c_l_program_9 { nx := K, rt := Q, bk := dSs Γ c_l_program_4 { nx := fun x M' => Q W.non M', rt := Q, ex := Ex }, ct := K, ex := Ex }
          [some (W.ref a), some (W.int most), some (W.lst (kinds.map kW)), some (W.lst ((plainOf kinds).map fun f : Nat => W.int f)), some (W.ref L), some (kW kd), some ev.enc, some b.enc, y] M4 := by
      intro b y M4 ob hb cb hs4 fr4
      have hf4 := fr4 L _ hfs nL1 nL2
      simp only [evs_, c_l_program_9, BM.recv, BM.w, appendW, f_l_next, f_l_body_v1, f_l_leaf_v1, f_l_words, dn]
      refine ⟨rfl, ⟨_, hf4⟩, by decide, use_next 2 hs4 rfl (by decide) (by decide) fun r4 M5 hr4 hs5 fr5 => ?_⟩
      obtain ⟨m, hm, m1, m8⟩ := t8_pick hr4
      simp only [evs_, hm]
      refine use_next m hs5 rfl m1 (by omega) fun r5 M6 hr5 hs6 fr6 => ?_
      simp only [evs_, dX]
      have hf6 := fr6 L _ (fr5 L _ hf4 nL1 nL2) nL1 nL2
      refine ⟨by decide, _, hf6, by rw [List.length_map]; exact Nat.lt_of_lt_of_le (by omega : fs.length < 9) (by decide), hK _ _ ⟨⟨_, _, _, _, rfl⟩, hs6.up nL1 nL2, fun b o hb h1 h2 => ?_, fs ++ [(1 + r5, b)], ?_, by rw [List.length_append, hlen]; rfl, fun f hf => ?_⟩⟩
      · rw [mup_off (fun z => by rw [z, hL] at hb; cases hb)]
        exact fr6 b o (fr5 b o (fr4 b o (fr3 b o hb h1 h2) h1 h2) h1 h2) h1 h2
      · rw [mup_at, List.map_append]
        simp only [List.map_cons, List.map_nil, encF, Int.natCast_add, Int.cast_ofNat_Int]
      · rcases List.mem_append.mp hf with z | z
        · exact hok f z
        · rw [List.mem_singleton.mp z]
          exact ⟨by show 1 ≤ 1 + r5; omega, by show 1 + r5 ≤ 8; omega, ob, hb, cb⟩
    have tail : ∀ (b : Bd) (y : Option W) M4, b.ok kinds.length → b.ht ≤ 6 → Hs a s M4 → Fr a s M' M4 →
        dSs Γ c_l_program_8 { nx := K, rt := Q, bk := dSs Γ c_l_program_4 { nx := fun x M' => Q W.non M', rt := Q, ex := Ex }, ct := K, ex := Ex }
          [some (W.ref a), some (W.int most), some (W.lst (kinds.map kW)), some (W.lst ((plainOf kinds).map fun f : Nat => W.int f)), some (W.ref L), some (kW kd), some ev.enc, some b.enc, y] M4 := by
      intro b y M4 ob hb hs4 fr4
      simp only [evs_, c_l_program_8, f_l_next, f_l_body_v1, f_l_leaf_v1, f_l_words, dn]
      refine ⟨b, rfl, by omega, ?_⟩
      simp only [evs_, dX]
      by_cases hc : (40 : Int) < b.cnt
      · simp only [evs_, hc, if_true, c_l_program_11, f_l_next, f_l_body_v1, f_l_leaf_v1, f_l_words, dn]
        refine use_leaf (Ex := Ex) true rfl hs4 evok (by omega) fun w M5 hw hs5 fr5 => ?_
        obtain ⟨b', rfl, o1, g1, c1⟩ := hw
        rw [hkl] at o1
        exact fin b' _ M5 o1 (by omega) (by omega) hs5 (fr4.trans fr5)
      · simp only [hc, if_false]
        exact fin b _ M4 ob hb (by omega) hs4 fr4
    simp only [evs_, c_l_program_6, f_l_next, f_l_body_v1, f_l_leaf_v1, f_l_words, dn]
    refine ⟨by decide, use_next 4 hs3 rfl (by decide) (by decide) fun r6 M4 hr6 hs4 fr4 => ?_⟩
    obtain ⟨kb, hkb⟩ := nnnw_pick hr6
    simp only [evs_, hkb]
    refine use_next 3 hs4 rfl (by decide) (by decide) fun r7 M5 hr7 hs5 fr5 => ?_
    simp only [evs_, dX]
    have e2 : (2 + (r7 : Int)) = ((2 + r7 : Nat) : Int) := by omega
    rw [e2]
    refine use_body (Ex := Ex) kb rfl hs5 evok (by omega) fun w M6 hw hs6 fr6 => ?_
    obtain ⟨b, rfl, ob, hb⟩ := hw
    rw [hkl] at ob
    have fr46 := (fr4.trans fr5).trans fr6
    simp only [evs_, c_l_program_7, kW_number, f_l_next, f_l_body_v1, f_l_leaf_v1, f_l_words, dn]
    by_cases hkd : kd = true
    · simp only [hkd, if_true]
      refine use_next 4 hs6 rfl (by decide) (by decide) fun r8 M7 hr8 hs7 fr7 => ?_
      simp only [evs_, dX]
      rw [hkd] at tail
      by_cases h0 : (0 : Int) < (r8 : Int)
      · simp only [evs_, h0, if_true, c_l_program_10, f_l_next, f_l_body_v1, f_l_leaf_v1, f_l_words, dn]
        refine ⟨by decide, use_leaf (Ex := Ex) true rfl hs7 evok (by omega) fun w M8 hw hs8 fr8 => ?_⟩
        obtain ⟨b', rfl, o1, g1, c1⟩ := hw
        rw [hkl] at o1
        exact ⟨by decide, tail (.iff .arg b b') _ M8 ⟨trivial, ob, o1⟩ (by simp only [Bd.ht]; omega) hs8 ((fr46.trans fr7).trans fr8)⟩
      · simp only [h0, if_false]
        exact tail b _ M7 ob (by omega) hs7 (fr46.trans fr7)
    · have hkf : kd = false := by simpa using hkd
      rw [hkf] at tail
      simp only [hkf, Bool.false_eq_true, if_false]
      exact tail b _ M6 ob (by omega) hs6 fr46
  · obtain ⟨⟨x5, x6, x7, x8, rfl⟩, hs3, fr3, fs, hfs, hlen, hok⟩ := h
    rw [Nat.zero_add, List.length_map] at hlen
    simp only [evs_, c_l_program_4, tupW, sv_ref hfs]
    exact q fs M' ⟨by omega, by omega, by rw [hlen]; exact hok⟩ (by omega) hs3 (hf0.trans fr3)
end WL
namespace WL
open PySem L2
local macro_rules | `(tactic| simp only [evs_, $xs,*]) => `(tactic| simp only [dX, dXs, dXo, dXi, dSc, d2, d1, dN, dVar, dC, dTup, dLst, dTru, dB, dChain, dIte, dNotV, dNotT, dJoinV, dJoinT, dNil, dCons, dCall, dBM, dIsi, dIsi2, dAttr, dMeth, dNew, dDget, dDin, dDnew, dKidx, dKin, dKget, dDisp, dFrz, dRev, dLrg, dSset, dSlice, dNoPart, dPart, dDfz, dRaise, dTry, dCatch, dKind, isx_eq, xfl_eq, dIsc, Gam.low, dAsg, dExpr, dRet, dIf, dFld, dSet, dDput, dNever, dFor, dNext, binP, cmpP, iSeqD, iRg1, iRg2, iZip, iEnumD, Tg.asg, setAll, List.set, List.map_cons, List.map_nil, subW, modW, fdivW, powW, ltW, leW, gtW, geW, newL, finD, frzO, tupW, listW, oneW, twoW, BI.w, ints_eq, add_int, add_str, add_tup, add_lst, mul_int, mul_lst, mul_tup, idx_tup, idx_lst, idx_scr, idx_str, len_tup, len_lst, len_scr, len_str, sl_tup, sl_lst, neg_int, str_int, str_str, int_int, int_bl, is_non, is_int, is_str, is_tup, is_lst, is_bl, is_bb, dss_cons, eq_int, eq_str, eq_bl, ne_int, ne_str, ne_bl, eq_nilL, ty_non, ty_bl, ty_int, ty_str, ty_tup, ty_lst, ty_scr, ty_dk, Ty.sub, tr_bl, tr_non, tr_int, tr_str, sv_lst, sv_tup, sv_scr, lv_lst, at0, at1, at2, cut1, len0, ss_nil, for_nil, for_cons, pairs_cons, pairs_nil, pairs_nil', walk_lst, walk_scr, walk_tup, walk_str, walk_ref, List.getElem?_cons_zero, List.getElem?_cons_succ, List.length_cons, List.length_nil, List.append_nil, List.cons_append, List.nil_append, Option.some.injEq, W.int.injEq, W.str.injEq, W.bl.injEq, W.tup.injEq, W.lst.injEq, W.ref.injEq, List.cons.injEq, Option.map_some, exists_and_left, exists_and_right, exists_eq_left, exists_eq_left', exists_eq, exists_eq', exists_eq_right, exists_eq_right', and_true, true_and, and_assoc, reduceIte, reduceCtorEq, decide_true, decide_false, decide_eq_true_eq, decide_eq_false_iff_not, Bool.not_eq_true', Bool.not_eq_false', Bool.true_eq_false, Bool.false_eq_true, if_true, if_false, Bool.not_true, Bool.not_false, ite_true, ite_false, Int.cast_ofNat_Int, Int.reduceAdd, Int.reduceSub, Int.reduceEq, Int.reduceLT, Int.reduceLE, Int.natCast_add, Nat.reduceEqDiff, Nat.reduceAdd, Nat.add_zero, Nat.zero_add, Nat.succ_ne_zero, not_true_eq_false, not_false_eq_true, Option.getD_some, Option.getD_none, Option.isSome_some, Option.isSome_none, $xs,*])
def c_written_words_3 : Ss := .cons (.expr (.bm true .extend (.var 1) (.cons (.ite (.cmp .Eq (.var 3) (.lit (.str "x"))) (.call 30 (.cons (.var 2) .nil)) (.lst false (.cons (.blt false .str (.cons (.var 2) .nil)) .nil))) .nil))) .nil
def c_written_words_2 : Ss := .cons (.ret (.frz (.var 1))) .nil
def c_written_words_1 : Ss := .cons (.for_ (.tup [2, 3]) (.zip (.slice false (.var 0) (.some (.lit (.int 1))) .none) (.kidx 0 (.idx (.var 0) (.lit (.int 0))))) c_written_words_3) c_written_words_2
def c_written_words : Ss := .cons (.asg (.name 1) (.lst true (.cons (.idx (.var 0) (.lit (.int 0))) .nil))) c_written_words_1
def n_written_words : List Str := ["body", "found", "arm", "sort"]
def c_written_1 : Ss := .cons (.ret (.bm false .join (.lit (.str "\n")) (.cons (.lc false (.bm false .join (.lit (.str " ")) (.cons (.bin .Add false (.lst false (.cons (.blt false .str (.cons (.var 1) .nil)) .nil)) (.call 30 (.cons (.var 2) .nil))) .nil)) (.tup [1, 2]) (.seq (.var 0)) .none [("size", 1), ("body", 2)]) .nil))) .nil
def c_written : Ss := .cons (.expr (.call 3 (.cons (.var 0) .nil))) c_written_1
def n_written : List Str := ["program", "size", "body"]
theorem len_app (a b : Str) : (a ++ b).length = a.length + b.length := by
  show (a.cps ++ b.cps).size = _
  rw [Array.size_append]
  rfl
theorem app_assoc (a b c : Str) : a ++ b ++ c = a ++ (b ++ c) := by
  show (⟨a.cps ++ b.cps ++ c.cps⟩ : Str) = ⟨a.cps ++ (b.cps ++ c.cps)⟩
  rw [Array.append_assoc]
theorem join_cons (y x : Str) {zs : List Str} (h : zs ≠ []) : Txt.join y (x :: zs) = x ++ (y ++ Txt.join y zs) := by
  cases zs with
  | nil => exact absurd rfl h
  | cons z r =>
    rw [TL.join_eq, TL.join_eq]
    show x ++ y ++ Str.join y (z :: r) = _
    rw [app_assoc]
theorem join_one (y x : Str) : Txt.join y [x] = x := by rw [TL.join_eq]; rfl
theorem join_app (y : Str) : ∀ {as bs : List Str}, as ≠ [] → bs ≠ [] → Txt.join y (as ++ bs) = Txt.join y as ++ (y ++ Txt.join y bs)
  | [], _, h, _ => absurd rfl h
  | [a], bs, _, hb => by rw [join_one]; exact join_cons y a hb
  | a :: c :: as, bs, _, hb => by
    rw [List.cons_append, join_cons y a (by simp), join_app y (as := c :: as) (by simp) hb, join_cons y a (by simp), app_assoc, app_assoc]
theorem join_nest (y : Str) : ∀ {ls : List (List Str)}, (∀ l ∈ ls, l ≠ []) → Txt.join y (ls.map (Txt.join y)) = Txt.join y ls.flatten
  | [], _ => rfl
  | [l], h => by rw [List.map_cons, List.map_nil, join_one]; simp
  | l :: m :: ls, h => by
    have hm : m ≠ [] := h m (by simp)
    rw [List.map_cons, join_cons y _ (by simp), join_nest y (ls := m :: ls) fun z hz => h z (List.mem_cons_of_mem _ hz), show (l :: m :: ls).flatten = l ++ (m :: ls).flatten from rfl, join_app y (h l (by simp)) (by
      rw [List.flatten_cons]
      cases m with
      | nil => exact absurd rfl hm
      | cons _ _ => simp)]
theorem join_len (y : Str) : ∀ (zs : List Str), (Txt.join y zs).length ≤ (zs.map (·.length)).sum + zs.length * y.length
  | [] => by rw [TL.join_eq]; exact Nat.zero_le _
  | [x] => by rw [join_one]; simp
  | x :: z :: r => by
    have := join_len y (z :: r)
    rw [join_cons y x (by simp), len_app, len_app, List.map_cons, List.sum_cons, List.length_cons]
    have e : (z :: r).length * y.length + y.length = ((z :: r).length + 1) * y.length := by rw [Nat.add_mul, Nat.one_mul]
    omega
def numS (n : Nat) : Str := Str.ofString (toString (n : Int))
def Bd.toks : Bd → List Str
  | .num n => ["num", numS n]
  | .arg => ["argument"]
  | .way f => ["way", numS f]
  | .plus a b => "plus" :: (a.toks ++ b.toks)
  | .less a b => "less" :: (a.toks ++ b.toks)
  | .times a b => "times" :: (a.toks ++ b.toks)
  | .iff a b c => "if" :: (a.toks ++ (b.toks ++ c.toks))
  | .thn a b => "then" :: (a.toks ++ b.toks)
  | .say a => "say" :: a.toks
  | .call f a => "call" :: numS f :: a.toks
  | .thr a b => "through" :: (a.toks ++ b.toks)
theorem Bd.toks_ne (b : Bd) : b.toks ≠ [] := by cases b <;> simp [Bd.toks]
def Bd.text (b : Bd) : Str := Txt.join " " b.toks
def Bd.ptx (b : Bd) : List Str := match b with
  | .num n => ["num", numS n]
  | .arg => ["argument"]
  | .way f => ["way", numS f]
  | .plus a b => ["plus", a.text, b.text]
  | .less a b => ["less", a.text, b.text]
  | .times a b => ["times", a.text, b.text]
  | .iff a b c => ["if", a.text, b.text, c.text]
  | .thn a b => ["then", a.text, b.text]
  | .say a => ["say", a.text]
  | .call f a => ["call", numS f, a.text]
  | .thr a b => ["through", a.text, b.text]
def strG : W → Option W
  | .str s => some (.str s)
  | .int i => some (.str (Str.ofString (toString i)))
  | _ => none
theorem Bd.ptx_parts (b : Bd) : (b.parts (fun a => some (.str a.text)) strG).filterMap (·.2) = b.ptx.map W.str := by cases b <;> rfl
theorem Bd.ptx_join (b : Bd) : Txt.join " " b.ptx = b.text := by
  have one : ∀ x : Str, x = Txt.join " " [x] := fun x => (join_one _ x).symm
  cases b
  case num n => rfl
  case arg => rfl
  case way n => rfl
  case iff a b c =>
    have := join_nest " " (ls := [["if"], a.toks, b.toks, c.toks]) (by simp [Bd.toks_ne])
    simpa [join_one, Bd.text, Bd.toks, Bd.ptx] using this
  case say a =>
    have := join_nest " " (ls := [["say"], a.toks]) (by simp [Bd.toks_ne])
    simpa [join_one, Bd.text, Bd.toks, Bd.ptx] using this
  case call f a =>
    have := join_nest " " (ls := [["call"], [numS f], a.toks]) (by simp [Bd.toks_ne])
    simpa [join_one, Bd.text, Bd.toks, Bd.ptx] using this
  case plus a b =>
    have := join_nest " " (ls := [["plus"], a.toks, b.toks]) (by simp [Bd.toks_ne])
    simpa [join_one, Bd.text, Bd.toks, Bd.ptx] using this
  case less a b =>
    have := join_nest " " (ls := [["less"], a.toks, b.toks]) (by simp [Bd.toks_ne])
    simpa [join_one, Bd.text, Bd.toks, Bd.ptx] using this
  case times a b =>
    have := join_nest " " (ls := [["times"], a.toks, b.toks]) (by simp [Bd.toks_ne])
    simpa [join_one, Bd.text, Bd.toks, Bd.ptx] using this
  case thn a b =>
    have := join_nest " " (ls := [["then"], a.toks, b.toks]) (by simp [Bd.toks_ne])
    simpa [join_one, Bd.text, Bd.toks, Bd.ptx] using this
  case thr a b =>
    have := join_nest " " (ls := [["through"], a.toks, b.toks]) (by simp [Bd.toks_ne])
    simpa [join_one, Bd.text, Bd.toks, Bd.ptx] using this
theorem len_num {n : Nat} (h : n ≤ 99) : (numS n).length ≤ 2 := by
  have := TL.numL_len (n := n) (k := 2) (by decide) (by omega)
  rw [← TL.tl_num, ← TL.len_tl] at this
  exact this
theorem Bd.size {m : Nat} (hm : m ≤ 99) : ∀ b : Bd, b.ok m → (b.toks.map (·.length)).sum ≤ 10 * b.cnt ∧ b.toks.length ≤ 2 * b.cnt
  | .num n, h => by
    have := len_num (n := n) h
    have e : Str.length "num" = 3 := rfl
    simp only [Bd.toks, Bd.cnt, List.map_cons, List.map_nil, List.sum_cons, List.sum_nil, List.length_cons, List.length_nil]
    omega
  | .arg, _ => by decide +kernel
  | .way n, h => by
    have h : n < m := h
    have := len_num (n := n) (by omega)
    have e : Str.length "way" = 3 := rfl
    simp only [Bd.toks, Bd.cnt, List.map_cons, List.map_nil, List.sum_cons, List.sum_nil, List.length_cons, List.length_nil]
    omega
  | .plus a b, h => by
    have := a.size hm h.1
    have := b.size hm h.2
    have e : Str.length "plus" = 4 := rfl
    simp only [Bd.toks, Bd.cnt, List.map_cons, List.map_append, List.sum_cons, List.sum_append, List.length_cons, List.length_append]
    omega
  | .less a b, h => by
    have := a.size hm h.1
    have := b.size hm h.2
    have e : Str.length "less" = 4 := rfl
    simp only [Bd.toks, Bd.cnt, List.map_cons, List.map_append, List.sum_cons, List.sum_append, List.length_cons, List.length_append]
    omega
  | .times a b, h => by
    have := a.size hm h.1
    have := b.size hm h.2
    have e : Str.length "times" = 5 := rfl
    simp only [Bd.toks, Bd.cnt, List.map_cons, List.map_append, List.sum_cons, List.sum_append, List.length_cons, List.length_append]
    omega
  | .iff a b c, h => by
    have := a.size hm h.1
    have := b.size hm h.2.1
    have := c.size hm h.2.2
    have e : Str.length "if" = 2 := rfl
    simp only [Bd.toks, Bd.cnt, List.map_cons, List.map_append, List.sum_cons, List.sum_append, List.length_cons, List.length_append]
    omega
  | .thn a b, h => by
    have := a.size hm h.1
    have := b.size hm h.2
    have e : Str.length "then" = 4 := rfl
    simp only [Bd.toks, Bd.cnt, List.map_cons, List.map_append, List.sum_cons, List.sum_append, List.length_cons, List.length_append]
    omega
  | .say a, h => by
    have := a.size hm h
    have e : Str.length "say" = 3 := rfl
    simp only [Bd.toks, Bd.cnt, List.map_cons, List.sum_cons, List.length_cons]
    omega
  | .call f a, h => by
    have := a.size hm h.2
    have hf : f < m := h.1
    have := len_num (n := f) (by omega)
    have e : Str.length "call" = 4 := rfl
    simp only [Bd.toks, Bd.cnt, List.map_cons, List.sum_cons, List.length_cons]
    omega
  | .thr a b, h => by
    have := a.size hm h.1
    have := b.size hm h.2
    have e : Str.length "through" = 7 := rfl
    simp only [Bd.toks, Bd.cnt, List.map_cons, List.map_append, List.sum_cons, List.sum_append, List.length_cons, List.length_append]
    omega
theorem sp1 : Str.length " " = 1 := rfl
theorem Bd.text_len {m : Nat} (hm : m ≤ 99) {b : Bd} (h : b.ok m) : b.text.length ≤ 12 * b.cnt := by
  have := b.size hm h
  have := join_len " " b.toks
  rw [sp1] at this
  unfold Bd.text
  omega
theorem Bd.args_ok {m : Nat} {b a : Bd} (h : a ∈ b.args) (ok : b.ok m) : a.ok m ∧ a.cnt + 1 ≤ b.cnt := by
  cases b <;> simp only [Bd.args, List.mem_cons, List.not_mem_nil, or_false] at h
  case iff => rcases h with rfl | rfl | rfl <;> simp only [Bd.cnt] <;> first | exact ⟨ok.1, by omega⟩ | exact ⟨ok.2.1, by omega⟩ | exact ⟨ok.2.2, by omega⟩
  case say => subst h; exact ⟨ok, by simp only [Bd.cnt]; omega⟩
  case call => subst h; exact ⟨ok.2, by simp only [Bd.cnt]; omega⟩
  all_goals (rcases h with rfl | rfl <;> simp only [Bd.cnt] <;> first | exact ⟨ok.1, by omega⟩ | exact ⟨ok.2, by omega⟩)
theorem Bd.ptx_len {m : Nat} (hm : m ≤ 99) {b : Bd} (h : b.ok m) : (b.ptx.map (·.length)).sum + b.ptx.length * 1 ≤ 20 * b.cnt + 100 := by
  have e1 : Str.length "num" = 3 := rfl
  have e2 : Str.length "argument" = 8 := rfl
  have e3 : Str.length "way" = 3 := rfl
  have e4 : Str.length "plus" = 4 := rfl
  have e5 : Str.length "less" = 4 := rfl
  have e6 : Str.length "times" = 5 := rfl
  have e7 : Str.length "if" = 2 := rfl
  have e8 : Str.length "then" = 4 := rfl
  have e9 : Str.length "say" = 3 := rfl
  have ea : Str.length "call" = 4 := rfl
  have eb : Str.length "through" = 7 := rfl
  have T : ∀ a ∈ b.args, a.text.length ≤ 12 * a.cnt := fun a ha => Bd.text_len hm (Bd.args_ok ha h).1
  cases b
  case num n => have := len_num (n := n) h; simp only [Bd.ptx, Bd.cnt, List.map_cons, List.map_nil, List.sum_cons, List.sum_nil, List.length_cons, List.length_nil]; omega
  case arg => simp only [Bd.ptx, Bd.cnt, List.map_cons, List.map_nil, List.sum_cons, List.sum_nil, List.length_cons, List.length_nil]; omega
  case way n => have h : n < m := h; have := len_num (n := n) (by omega); simp only [Bd.ptx, Bd.cnt, List.map_cons, List.map_nil, List.sum_cons, List.sum_nil, List.length_cons, List.length_nil]; omega
  case iff a b c => have := T a (by simp [Bd.args]); have := T b (by simp [Bd.args]); have := T c (by simp [Bd.args]); simp only [Bd.ptx, Bd.cnt, List.map_cons, List.map_nil, List.sum_cons, List.sum_nil, List.length_cons, List.length_nil]; omega
  case say a => have := T a (by simp [Bd.args]); simp only [Bd.ptx, Bd.cnt, List.map_cons, List.map_nil, List.sum_cons, List.sum_nil, List.length_cons, List.length_nil]; omega
  case call f a => have hf : f < m := h.1; have := len_num (n := f) (by omega); have := T a (by simp [Bd.args]); simp only [Bd.ptx, Bd.cnt, List.map_cons, List.map_nil, List.sum_cons, List.sum_nil, List.length_cons, List.length_nil]; omega
  all_goals
    rename_i a b
    have := T a (by simp [Bd.args])
    have := T b (by simp [Bd.args])
    simp only [Bd.ptx, Bd.cnt, List.map_cons, List.map_nil, List.sum_cons, List.sum_nil, List.length_cons, List.length_nil]
    omega
theorem log_num {n : Nat} (h : n ≤ 99) : ((n : Int)).natAbs.log2 < 1920 := by
  have : ∀ n : Nat, n ≤ 99 → n.log2 < 1920 := by decide
  exact this n h
def sp_l_text : Nat → Wp := fun k ws M Q _ => ∃ (b : Bd) (m : Nat), ws = [b.enc] ∧ b.ok m ∧ m ≤ 99 ∧ b.cnt ≤ 1000 ∧ b.ht ≤ k ∧ Q (.str b.text) M
theorem num_in {f : Bd → Option W} {m : Nat} {b : Bd} {i : Int} {y : Option W} (h : (W.int i, y) ∈ b.parts f strG) (ok : b.ok m) (hm : m ≤ 99) : ∃ n : Nat, i = n ∧ n ≤ 99 := by
  have ne : ∀ a : Bd, W.int i ≠ a.enc := fun a z => by rw [Bd.enc_eq] at z; cases z
  cases b <;> simp only [Bd.parts, List.mem_cons, List.not_mem_nil, or_false, Prod.mk.injEq, W.int.injEq, reduceCtorEq, false_and, false_or, ne] at h
  case num n => exact ⟨n, h.1, ok⟩
  case way n => have ok : n < m := ok; exact ⟨n, h.1, by omega⟩
  case call n a => have ok := ok.1; exact ⟨n, h.1, by omega⟩
theorem keep_l_text {Γ : Gam} {k : Nat} (f_l_text : Γ.fn 94 = dn sp_l_text k) : KeepC Γ n_l_text 1 c_l_text (sp_l_text k) := by
  rintro ws M Q Ex ⟨b, m, rfl, ok, hm, hc, hk, q⟩
  refine ⟨rfl, ?_⟩
  show dSs Γ _ _ [some b.enc, none] M
  rw [Bd.enc_eq]
  simp only [evs_, c_l_text, dLc, wipeW, BM.recv, BM.w, f_l_text]
  refine ⟨rfl, szl (by have := b.ws_len; omega), lc_of (b.parts (fun a => some (.str a.text)) strG) b.parts_ws (fun _ _ _ => trivial) (fun D hD p hp us => ?_) ?_⟩
  · refine ⟨_, rfl, fun R h => ?_, fun y hy R h => ?_⟩
    · rcases Bd.parts_in hp with ⟨a, ha, rfl⟩ | ⟨s, rfl⟩ | ⟨n, rfl⟩ <;> exact h
    · rcases Bd.parts_in hp with ⟨a, ha, rfl⟩ | ⟨s, rfl⟩ | ⟨n, rfl⟩
      · have := Bd.args_ht ha
        obtain ⟨oa, ca⟩ := Bd.args_ok ha ok
        cases k with
        | zero => omega
        | succ k =>
        cases hy
        rw [Bd.enc_eq]
        simp only [evs_, dn]
        rw [← Bd.enc_eq]
        exact ⟨a, m, rfl, oa, hm, by omega, by omega, h⟩
      · cases hy
        simp only [evs_, dX]
        exact h
      · obtain ⟨n', e, hn⟩ := num_in hp ok hm
        have e : n = n' := by omega
        subst e
        cases hy
        simp only [evs_, dX]
        exact ⟨log_num hn, h⟩
  · rw [Bd.ptx_parts]
    refine ⟨b.ptx, rfl, ?_, ?_⟩
    · have := Bd.ptx_len hm ok
      rw [sp1]
      omega
    · rw [Bd.ptx_join]
      exact q
end WL
namespace WL
open PySem L2
local macro_rules | `(tactic| simp only [evs_, $xs,*]) => `(tactic| simp only [dX, dXs, dXo, dXi, dSc, d2, d1, dN, dVar, dC, dTup, dLst, dTru, dB, dChain, dIte, dNotV, dNotT, dJoinV, dJoinT, dNil, dCons, dCall, dBM, dIsi, dIsi2, dAttr, dMeth, dNew, dDget, dDin, dDnew, dKidx, dKin, dKget, dDisp, dFrz, dRev, dLrg, dSset, dSlice, dNoPart, dPart, dDfz, dRaise, dTry, dCatch, dKind, isx_eq, xfl_eq, dIsc, Gam.low, dAsg, dExpr, dRet, dIf, dFld, dSet, dDput, dNever, dFor, dNext, binP, cmpP, iSeqD, iRg1, iRg2, iZip, iEnumD, Tg.asg, setAll, List.set, List.map_cons, List.map_nil, subW, modW, fdivW, powW, ltW, leW, gtW, geW, newL, finD, frzO, tupW, listW, oneW, twoW, BI.w, ints_eq, add_int, add_str, add_tup, add_lst, mul_int, mul_lst, mul_tup, idx_tup, idx_lst, idx_scr, idx_str, len_tup, len_lst, len_scr, len_str, sl_tup, sl_lst, neg_int, str_int, str_str, int_int, int_bl, is_non, is_int, is_str, is_tup, is_lst, is_bl, is_bb, dss_cons, eq_int, eq_str, eq_bl, ne_int, ne_str, ne_bl, eq_nilL, ty_non, ty_bl, ty_int, ty_str, ty_tup, ty_lst, ty_scr, ty_dk, Ty.sub, tr_bl, tr_non, tr_int, tr_str, sv_lst, sv_tup, sv_scr, lv_lst, at0, at1, at2, cut1, len0, ss_nil, for_nil, for_cons, pairs_cons, pairs_nil, pairs_nil', walk_lst, walk_scr, walk_tup, walk_str, walk_ref, List.getElem?_cons_zero, List.getElem?_cons_succ, List.length_cons, List.length_nil, List.append_nil, List.cons_append, List.nil_append, Option.some.injEq, W.int.injEq, W.str.injEq, W.bl.injEq, W.tup.injEq, W.lst.injEq, W.ref.injEq, List.cons.injEq, Option.map_some, exists_and_left, exists_and_right, exists_eq_left, exists_eq_left', exists_eq, exists_eq', exists_eq_right, exists_eq_right', and_true, true_and, and_assoc, reduceIte, reduceCtorEq, decide_true, decide_false, decide_eq_true_eq, decide_eq_false_iff_not, Bool.not_eq_true', Bool.not_eq_false', Bool.true_eq_false, Bool.false_eq_true, if_true, if_false, Bool.not_true, Bool.not_false, ite_true, ite_false, Int.cast_ofNat_Int, Int.reduceAdd, Int.reduceSub, Int.reduceEq, Int.reduceLT, Int.reduceLE, Int.natCast_add, Nat.reduceEqDiff, Nat.reduceAdd, Nat.add_zero, Nat.zero_add, Nat.succ_ne_zero, not_true_eq_false, not_false_eq_true, Option.getD_some, Option.getD_none, Option.isSome_some, Option.isSome_none, $xs,*])
theorem ext_mup {M : Mh} {a : Addr} {ws us : List W} {Q : QW} : extendW (.ref a) [.lst us] (mup M a (.lst ws)) Q = (ws.length + us.length ≤ sizeLine ∧ Q .non (mup M a (.lst (ws ++ us)))) := by
  show (∃ ws' us', mup M a (.lst ws) a = some (.lst ws') ∧ xv _ (.lst us) = some us' ∧ ws'.length + us'.length ≤ sizeLine ∧ Q .non (mup (mup M a (.lst ws)) a (.lst (ws' ++ us')))) = _
  simp [mup_at, xv_lst, mup_mup]
theorem app_mup {M : Mh} {a : Addr} {ws : List W} {y : W} {Q : QW} : appendW (.ref a) [y] (mup M a (.lst ws)) Q = (ws.length < sizeLine ∧ Q .non (mup M a (.lst (ws ++ [y])))) := by
  show (∃ ws', mup M a (.lst ws) a = some (.lst ws') ∧ ws'.length < sizeLine ∧ Q .non (mup (mup M a (.lst ws)) a (.lst (ws' ++ [y])))) = _
  simp [mup_at, mup_mup]
theorem recv_mup {M : Mh} {a : Addr} {ws : List W} {b : BM} : BM.recv (mup M a (.lst ws)) b (.ref a) = (b.cls = "list") := by
  show (b.cls = "list" ∧ ∃ us, mup M a (.lst ws) a = some (.lst us)) = _
  simp [mup_at]
theorem frz_mup {M : Mh} {a : Addr} {ws : List W} {Q : QW} : frzW (.ref a) (mup M a (.lst ws)) Q = Q (.lst ws) (mdel (mup M a (.lst ws)) a) := frz_ref mup_at
theorem cls_ext : BM.cls .extend = "list" := rfl
theorem cls_app : BM.cls .append = "list" := rfl
def sp_written_words : Nat → Wp := fun k ws M Q _ => ∃ (b : Bd) (m : Nat), ws = [b.enc] ∧ b.ok m ∧ m ≤ 99 ∧ b.cnt ≤ 1000 ∧ b.ht ≤ k ∧ Q (.lst (b.toks.map W.str)) M
theorem use_ww {k m : Nat} {b : Bd} {M : Mh} {Q : QW} {Ex : QX} (h1 : b.ok m) (h2 : m ≤ 99) (h3 : b.cnt ≤ 1000) (h4 : b.ht ≤ k) (q : Q (.lst (b.toks.map W.str)) M) : sp_written_words k [b.enc] M Q Ex := ⟨b, m, rfl, h1, h2, h3, h4, q⟩
theorem keep_written_words {Γ : Gam} {k : Nat} (f_written_words : Γ.fn 30 = dn sp_written_words k) (k_ARMS : Γ.kd 0 = ARMS) : KeepC Γ n_written_words 1 c_written_words (sp_written_words k) := by
  rintro ws M Q Ex ⟨b, m, rfl, ok, hm, hc, hk, q⟩
  refine ⟨rfl, ?_⟩
  show dSs Γ _ _ [some b.enc, none, none, none] M
  have hT : ∀ a ∈ b.args, a.ok m ∧ a.cnt ≤ 1000 ∧ a.ht + 1 ≤ b.ht ∧ a.toks.length ≤ 2000 := fun a ha => by
    obtain ⟨o, c⟩ := Bd.args_ok ha ok
    have := (a.size hm o).2
    exact ⟨o, by omega, Bd.args_ht ha, by omega⟩
  rw [Bd.enc_eq]
  cases b with
  | num n =>
    simp only [evs_, Bd.ws, c_written_words_3, c_written_words_2, c_written_words_1, c_written_words, f_written_words, k_ARMS, dn, tl_num, sg_n, BM.w, nx, fx]
    refine ⟨by decide, fun L hL => ?_⟩
    simp only [recv_mup, cls_ext, ext_mup, true_and]
    refine ⟨log_num ok, by decide, ?_⟩
    refine ⟨szl (by simp), ?_⟩
    rw [frz_mup, mdel_mup hL]
    simpa [frzO, Bd.toks, numS] using q
  | arg =>
    simp only [evs_, Bd.ws, c_written_words_3, c_written_words_2, c_written_words_1, c_written_words, f_written_words, k_ARMS, dn, tl_argument, sg_0, BM.w, nx, fx]
    refine ⟨by decide, fun L hL => ?_⟩
    rw [frz_mup, mdel_mup hL]
    simpa [frzO, Bd.toks, numS] using q
  | way f =>
    simp only [evs_, Bd.ws, c_written_words_3, c_written_words_2, c_written_words_1, c_written_words, f_written_words, k_ARMS, dn, tl_way, sg_f, BM.w, nx, fx]
    refine ⟨by decide, fun L hL => ?_⟩
    simp only [recv_mup, cls_ext, ext_mup, true_and]
    refine ⟨log_num (by have h : f < m := ok; omega), by decide, ?_⟩
    refine ⟨szl (by simp), ?_⟩
    rw [frz_mup, mdel_mup hL]
    simpa [frzO, Bd.toks, numS] using q
  | plus a b =>
    obtain ⟨oa, ca, ha, la⟩ := hT a (by simp [Bd.args])
    obtain ⟨ob, cb, hb, lb⟩ := hT b (by simp [Bd.args])
    cases k with
    | zero => omega
    | succ k =>
    simp only [evs_, Bd.ws, c_written_words_3, c_written_words_2, c_written_words_1, c_written_words, f_written_words, k_ARMS, dn, tl_plus, sg_xx, BM.w, nx, fx]
    refine ⟨by decide, fun L hL => ?_⟩
    simp only [recv_mup, cls_ext, ext_mup, true_and]
    refine use_ww oa hm ca (by omega) ?_
    rw [ext_mup]
    refine ⟨szl (by simp only [List.length_append, List.length_map, List.length_cons, List.length_nil]; omega), ?_⟩
    simp only [recv_mup, cls_ext, true_and]
    refine use_ww ob hm cb (by omega) ?_
    rw [ext_mup]
    refine ⟨szl (by simp only [List.length_append, List.length_map, List.length_cons, List.length_nil]; omega), ?_⟩
    rw [frz_mup, mdel_mup hL]
    simpa [frzO, Bd.toks, numS] using q
  | less a b =>
    obtain ⟨oa, ca, ha, la⟩ := hT a (by simp [Bd.args])
    obtain ⟨ob, cb, hb, lb⟩ := hT b (by simp [Bd.args])
    cases k with
    | zero => omega
    | succ k =>
    simp only [evs_, Bd.ws, c_written_words_3, c_written_words_2, c_written_words_1, c_written_words, f_written_words, k_ARMS, dn, tl_less, sg_xx, BM.w, nx, fx]
    refine ⟨by decide, fun L hL => ?_⟩
    simp only [recv_mup, cls_ext, ext_mup, true_and]
    refine use_ww oa hm ca (by omega) ?_
    rw [ext_mup]
    refine ⟨szl (by simp only [List.length_append, List.length_map, List.length_cons, List.length_nil]; omega), ?_⟩
    simp only [recv_mup, cls_ext, true_and]
    refine use_ww ob hm cb (by omega) ?_
    rw [ext_mup]
    refine ⟨szl (by simp only [List.length_append, List.length_map, List.length_cons, List.length_nil]; omega), ?_⟩
    rw [frz_mup, mdel_mup hL]
    simpa [frzO, Bd.toks, numS] using q
  | times a b =>
    obtain ⟨oa, ca, ha, la⟩ := hT a (by simp [Bd.args])
    obtain ⟨ob, cb, hb, lb⟩ := hT b (by simp [Bd.args])
    cases k with
    | zero => omega
    | succ k =>
    simp only [evs_, Bd.ws, c_written_words_3, c_written_words_2, c_written_words_1, c_written_words, f_written_words, k_ARMS, dn, tl_times, sg_xx, BM.w, nx, fx]
    refine ⟨by decide, fun L hL => ?_⟩
    simp only [recv_mup, cls_ext, ext_mup, true_and]
    refine use_ww oa hm ca (by omega) ?_
    rw [ext_mup]
    refine ⟨szl (by simp only [List.length_append, List.length_map, List.length_cons, List.length_nil]; omega), ?_⟩
    simp only [recv_mup, cls_ext, true_and]
    refine use_ww ob hm cb (by omega) ?_
    rw [ext_mup]
    refine ⟨szl (by simp only [List.length_append, List.length_map, List.length_cons, List.length_nil]; omega), ?_⟩
    rw [frz_mup, mdel_mup hL]
    simpa [frzO, Bd.toks, numS] using q
  | iff a b c =>
    obtain ⟨oa, ca, ha, la⟩ := hT a (by simp [Bd.args])
    obtain ⟨ob, cb, hb, lb⟩ := hT b (by simp [Bd.args])
    obtain ⟨oc, cc, hc, lc⟩ := hT c (by simp [Bd.args])
    cases k with
    | zero => omega
    | succ k =>
    simp only [evs_, Bd.ws, c_written_words_3, c_written_words_2, c_written_words_1, c_written_words, f_written_words, k_ARMS, dn, tl_if, sg_xxx, BM.w, nx, fx]
    refine ⟨by decide, fun L hL => ?_⟩
    simp only [recv_mup, cls_ext, ext_mup, true_and]
    refine use_ww oa hm ca (by omega) ?_
    rw [ext_mup]
    refine ⟨szl (by simp only [List.length_append, List.length_map, List.length_cons, List.length_nil]; omega), ?_⟩
    simp only [recv_mup, cls_ext, true_and]
    refine use_ww ob hm cb (by omega) ?_
    rw [ext_mup]
    refine ⟨szl (by simp only [List.length_append, List.length_map, List.length_cons, List.length_nil]; omega), ?_⟩
    simp only [recv_mup, cls_ext, true_and]
    refine use_ww oc hm cc (by omega) ?_
    rw [ext_mup]
    refine ⟨szl (by simp only [List.length_append, List.length_map, List.length_cons, List.length_nil]; omega), ?_⟩
    rw [frz_mup, mdel_mup hL]
    simpa [frzO, Bd.toks, numS] using q
  | thn a b =>
    obtain ⟨oa, ca, ha, la⟩ := hT a (by simp [Bd.args])
    obtain ⟨ob, cb, hb, lb⟩ := hT b (by simp [Bd.args])
    cases k with
    | zero => omega
    | succ k =>
    simp only [evs_, Bd.ws, c_written_words_3, c_written_words_2, c_written_words_1, c_written_words, f_written_words, k_ARMS, dn, tl_then, sg_xx, BM.w, nx, fx]
    refine ⟨by decide, fun L hL => ?_⟩
    simp only [recv_mup, cls_ext, ext_mup, true_and]
    refine use_ww oa hm ca (by omega) ?_
    rw [ext_mup]
    refine ⟨szl (by simp only [List.length_append, List.length_map, List.length_cons, List.length_nil]; omega), ?_⟩
    simp only [recv_mup, cls_ext, true_and]
    refine use_ww ob hm cb (by omega) ?_
    rw [ext_mup]
    refine ⟨szl (by simp only [List.length_append, List.length_map, List.length_cons, List.length_nil]; omega), ?_⟩
    rw [frz_mup, mdel_mup hL]
    simpa [frzO, Bd.toks, numS] using q
  | say a =>
    obtain ⟨oa, ca, ha, la⟩ := hT a (by simp [Bd.args])
    cases k with
    | zero => omega
    | succ k =>
    simp only [evs_, Bd.ws, c_written_words_3, c_written_words_2, c_written_words_1, c_written_words, f_written_words, k_ARMS, dn, tl_say, sg_x, BM.w, nx, fx]
    refine ⟨by decide, fun L hL => ?_⟩
    simp only [recv_mup, cls_ext, ext_mup, true_and]
    refine use_ww oa hm ca (by omega) ?_
    rw [ext_mup]
    refine ⟨szl (by simp only [List.length_append, List.length_map, List.length_cons, List.length_nil]; omega), ?_⟩
    rw [frz_mup, mdel_mup hL]
    simpa [frzO, Bd.toks, numS] using q
  | call f a =>
    obtain ⟨oa, ca, ha, la⟩ := hT a (by simp [Bd.args])
    cases k with
    | zero => omega
    | succ k =>
    simp only [evs_, Bd.ws, c_written_words_3, c_written_words_2, c_written_words_1, c_written_words, f_written_words, k_ARMS, dn, tl_call, sg_fx, BM.w, nx, fx]
    refine ⟨by decide, fun L hL => ?_⟩
    simp only [recv_mup, cls_ext, ext_mup, true_and]
    refine ⟨log_num (by have h : f < m := ok.1; omega), by decide, ?_⟩
    refine ⟨szl (by simp), ?_⟩
    refine use_ww oa hm ca (by omega) ?_
    rw [ext_mup]
    refine ⟨szl (by simp only [List.length_append, List.length_map, List.length_cons, List.length_nil]; omega), ?_⟩
    rw [frz_mup, mdel_mup hL]
    simpa [frzO, Bd.toks, numS] using q
  | thr a b =>
    obtain ⟨oa, ca, ha, la⟩ := hT a (by simp [Bd.args])
    obtain ⟨ob, cb, hb, lb⟩ := hT b (by simp [Bd.args])
    cases k with
    | zero => omega
    | succ k =>
    simp only [evs_, Bd.ws, c_written_words_3, c_written_words_2, c_written_words_1, c_written_words, f_written_words, k_ARMS, dn, tl_through, sg_xx, BM.w, nx, fx]
    refine ⟨by decide, fun L hL => ?_⟩
    simp only [recv_mup, cls_ext, ext_mup, true_and]
    refine use_ww oa hm ca (by omega) ?_
    rw [ext_mup]
    refine ⟨szl (by simp only [List.length_append, List.length_map, List.length_cons, List.length_nil]; omega), ?_⟩
    simp only [recv_mup, cls_ext, true_and]
    refine use_ww ob hm cb (by omega) ?_
    rw [ext_mup]
    refine ⟨szl (by simp only [List.length_append, List.length_map, List.length_cons, List.length_nil]; omega), ?_⟩
    rw [frz_mup, mdel_mup hL]
    simpa [frzO, Bd.toks, numS] using q
def lineT (f : Nat × Bd) : List Str := numS f.1 :: f.2.toks
def lineS (f : Nat × Bd) : Str := Txt.join " " (lineT f)
def progT (p : List (Nat × Bd)) : Str := Txt.join "\n" (p.map lineS)
theorem lineS_eq (f : Nat × Bd) : lineS f = numS f.1 ++ " " ++ f.2.text := by
  unfold lineS lineT Bd.text
  rw [join_cons _ _ (Bd.toks_ne _), app_assoc]
theorem line_size {m : Nat} {f : Nat × Bd} (hm : m ≤ 99) (ok : FOk m f) : ((lineT f).map (·.length)).sum + (lineT f).length ≤ 500 := by
  have h := f.2.size hm ok.ok
  have h1 := ok.cnt
  have h2 := len_num (n := f.1) (by have := ok.s8; omega)
  unfold lineT
  rw [List.map_cons, List.sum_cons, List.length_cons]
  omega
theorem line_len {m : Nat} {f : Nat × Bd} (hm : m ≤ 99) (ok : FOk m f) : (lineS f).length ≤ 500 := by
  have := line_size hm ok
  have := join_len " " (lineT f)
  rw [sp1] at this
  unfold lineS
  omega
theorem sum_le {c : Nat} : ∀ {l : List Nat}, (∀ x ∈ l, x ≤ c) → l.sum ≤ l.length * c
  | [], _ => by simp
  | x :: l, h => by
    have h1 := h x (by simp)
    have h2 := sum_le fun y hy => h y (List.mem_cons_of_mem x hy)
    rw [List.sum_cons, List.length_cons, Nat.add_mul, Nat.one_mul]
    omega
theorem nl1 : Str.length "\n" = 1 := rfl
theorem prog_size {p : List (Nat × Bd)} (ok : PrOk p) : ((p.map lineS).map (·.length)).sum + (p.map lineS).length * 1 ≤ 5000 := by
  have h8 := ok.l8
  have h := sum_le (c := 500) (l := (p.map lineS).map (·.length)) fun x hx => by
    obtain ⟨y, hy, rfl⟩ := List.mem_map.mp hx
    obtain ⟨f, hf, rfl⟩ := List.mem_map.mp hy
    exact line_len (by omega) (ok.ok f hf)
  rw [List.length_map, List.length_map] at h
  rw [List.length_map]
  have : p.length * 500 ≤ 8 * 500 := Nat.mul_le_mul_right _ h8
  omega
theorem prog_len {p : List (Nat × Bd)} (ok : PrOk p) : (progT p).length ≤ 5000 := by
  have := prog_size ok
  have := join_len "\n" (p.map lineS)
  rw [nl1] at this
  unfold progT
  omega
theorem fm_some {α : Type} {g h : α → W} : ∀ {l : List α}, (l.map fun f => (g f, some (h f))).filterMap (·.2) = l.map h
  | [] => rfl
  | f :: l => by rw [List.map_cons, List.filterMap_cons]; exact congrArg _ fm_some
def sp_written : Nat → Wp := fun k ws M Q _ => ∃ p : List (Nat × Bd), ws = [encP p] ∧ PrOk p ∧ 10 ≤ k ∧ Q (.str (progT p)) M
theorem keep_written {Γ : Gam} {k : Nat} (f_need_program : Γ.fn 3 = dn sp_need_program k) (f_written_words : Γ.fn 30 = dn sp_written_words k) : KeepC Γ n_written 1 c_written (sp_written k) := by
  rintro ws M Q Ex ⟨p, rfl, ok, hk, q⟩
  refine ⟨rfl, ?_⟩
  show dSs Γ _ _ [some (encP p), none, none] M
  cases k with
  | zero => omega
  | succ k =>
  simp only [evs_, c_written, f_need_program, f_written_words, dn]
  refine ⟨p, rfl, ok, by omega, ?_⟩
  simp only [evs_, c_written_1, encP, dLc, wipeW, BM.recv, BM.w, f_need_program, f_written_words, dn, List.length_map]
  refine ⟨rfl, szl (by have := ok.l8; omega), lc_of (p.map fun f => (encF f, some (.str (lineS f)))) (by simp [Function.comp]) (fun _ _ _ => trivial) (fun D hD pr hp us => ?_) ?_⟩
  · obtain ⟨f, hf, rfl⟩ := List.mem_map.mp hp
    have fo := ok.ok f hf
    refine ⟨_, rfl, fun R h => h, fun y hy R h => ?_⟩
    cases hy
    simp only [evs_, dAsg, f_need_program, f_written_words, dn, BM.recv, BM.w]
    refine ⟨rfl, log_num (by have := fo.s8; omega), by decide, use_ww fo.ok (by have := ok.l8; omega) (by have := fo.cnt; omega) (by have := fo.ht; omega) ?_⟩
    simp only [evs_, dX]
    refine ⟨szl (by have := (f.2.size (by have := ok.l8; omega) fo.ok).2; have := fo.cnt; rw [List.length_map]; omega), lineT f, rfl, ?_, h⟩
    have := line_size (by have := ok.l8; omega) fo
    rw [sp1]
    omega
  · refine ⟨p.map lineS, ?_, ?_, q⟩
    · rw [sv_lst, fm_some, List.map_map]; rfl
    · have := prog_size ok
      rw [nl1]
      omega
def c_Reader_ini_2 : Ss := .cons (.fld (.var 0) "at" (.lit (.int 0))) .nil
def c_Reader_ini_1 : Ss := .cons (.fld (.var 0) "words" (.var 2)) c_Reader_ini_2
def c_Reader_ini : Ss := .cons (.fld (.var 0) "row" (.var 1)) c_Reader_ini_1
def n_Reader_ini : List Str := ["self", "row", "words"]
def c_Reader_taken_3 : Ss := .cons .never .nil
def c_Reader_taken_2 : Ss := .cons (.ret (.idx (.attr (.var 0) "words") (.bin .Sub false (.attr (.var 0) "at") (.lit (.int 1))))) .nil
def c_Reader_taken_1 : Ss := .cons (.fld (.var 0) "at" (.bin .Add false (.attr (.var 0) "at") (.lit (.int 1)))) c_Reader_taken_2
def c_Reader_taken : Ss := .cons (.ite (.cmp .GtE (.attr (.var 0) "at") (.blt false .len (.cons (.attr (.var 0) "words") .nil))) c_Reader_taken_3 .nil) c_Reader_taken_1
def n_Reader_taken : List Str := ["self"]
def c_Reader_number_4 : Ss := .cons .never .nil
def c_Reader_number_3 : Ss := .cons (.ret (.blt false .int (.cons (.var 1) .nil))) .nil
def c_Reader_number_2 : Ss := .cons (.ite (.bool false (.cons (.not (.var 2)) (.cons (.bool true (.cons (.cmp .Eq (.idx (.var 1) (.lit (.int 0))) (.lit (.str "0"))) (.cons (.cmp .NotEq (.var 1) (.lit (.str "0"))) .nil))) .nil))) c_Reader_number_4 .nil) c_Reader_number_3
def c_Reader_number_1 : Ss := .cons (.asg (.name 2) (.bool true (.cons (.chain .LtE .LtE (.lit (.int 1)) (.blt false .len (.cons (.var 1) .nil)) (.glob 4)) (.cons (.cmp .Eq (.lc false (.var 3) (.name 3) (.seq (.var 1)) (.some (.cmp .NotIn (.var 3) (.glob 0))) [("sign", 3)]) (.lst false .nil)) .nil)))) c_Reader_number_2
def c_Reader_number : Ss := .cons (.asg (.name 1) (.meth 19 (.var 0) .nil)) c_Reader_number_1
def n_Reader_number : List Str := ["self", "word", "good", "sign"]
def c_Reader_body_5 : Ss := .cons .never .nil
def c_Reader_body_6 : Ss := .cons (.expr (.bm true .append (.var 2) (.cons (.ite (.cmp .Eq (.var 3) (.lit (.str "x"))) (.meth 21 (.var 0) .nil) (.meth 20 (.var 0) .nil)) .nil))) .nil
def c_Reader_body_4 : Ss := .cons (.ret (.blt false .tup (.cons (.var 2) .nil))) .nil
def c_Reader_body_3 : Ss := .cons (.for_ (.name 3) (.seq (.kidx 0 (.var 1))) c_Reader_body_6) c_Reader_body_4
def c_Reader_body_2 : Ss := .cons (.asg (.name 2) (.lst true (.cons (.var 1) .nil))) c_Reader_body_3
def c_Reader_body_1 : Ss := .cons (.ite (.kin true 0 (.var 1)) c_Reader_body_5 .nil) c_Reader_body_2
def c_Reader_body : Ss := .cons (.asg (.name 1) (.meth 19 (.var 0) .nil)) c_Reader_body_1
def n_Reader_body : List Str := ["self", "word", "found", "sort"]
def c_Reader_a_function_3 : Ss := .cons .never .nil
def c_Reader_a_function_2 : Ss := .cons (.ret (.var 1)) .nil
def c_Reader_a_function_1 : Ss := .cons (.ite (.cmp .Lt (.attr (.var 0) "at") (.blt false .len (.cons (.attr (.var 0) "words") .nil))) c_Reader_a_function_3 .nil) c_Reader_a_function_2
def c_Reader_a_function : Ss := .cons (.asg (.name 1) (.tup (.cons (.meth 20 (.var 0) .nil) (.cons (.meth 21 (.var 0) .nil) .nil)))) c_Reader_a_function_1
def n_Reader_a_function : List Str := ["self", "found"]
def c_read_4 : Ss := .cons (.expr (.bm true .append (.var 1) (.cons (.meth 22 (.new true 22 (.cons (.var 2) (.cons (.bm false .split (.var 3) (.cons (.lit (.str " ")) .nil)) .nil))) .nil) .nil))) .nil
def c_read_3 : Ss := .cons (.ret (.blt false .tup (.cons (.var 1) .nil))) .nil
def c_read_2 : Ss := .cons (.expr (.call 3 (.cons (.blt false .tup (.cons (.var 1) .nil)) .nil))) c_read_3
def c_read_1 : Ss := .cons (.for_ (.tup [2, 3]) (.enum (.bm false .split (.var 0) (.cons (.lit (.str "\n")) .nil))) c_read_4) c_read_2
def c_read : Ss := .cons (.asg (.name 1) (.lst true .nil)) c_read_1
def n_read : List Str := ["text", "found", "row", "line"]
def Rd (x : Addr) (row : Int) (toks : List Str) (i : Nat) (M : Mh) : Prop := M x = some (.ins 22 [("row", .int row), ("words", .lst (toks.map W.str)), ("at", .int i)])
def Fx1 (x : Addr) (M M' : Mh) : Prop := ∀ b o, M b = some o → b ≠ x → M' b = some o
theorem Fx1.refl {x : Addr} {M : Mh} : Fx1 x M M := fun _ _ h _ => h
theorem Fx1.trans {x : Addr} {M M' M'' : Mh} (h : Fx1 x M M') (h' : Fx1 x M' M'') : Fx1 x M M'' := fun b o hb h1 => h' b o (h b o hb h1) h1
theorem fld_words {x : Addr} {row : Int} {toks : List Str} {i : Nat} {M : Mh} (h : Rd x row toks i M) : fldW M (.ref x) "words" = some (.lst (toks.map W.str)) := by
  unfold Rd at h
  simp only [fldW, h]
  rfl
theorem fld_at {x : Addr} {row : Int} {toks : List Str} {i : Nat} {M : Mh} (h : Rd x row toks i M) : fldW M (.ref x) "at" = some (.int i) := by
  unfold Rd at h
  simp only [fldW, h]
  rfl
theorem ins_rd {x : Addr} {row : Int} {toks : List Str} {i : Nat} {M : Mh} (h : Rd x row toks i M) : insW M (.ref x) = some (22, (["row", "words", "at"] : List Str)) := by
  unfold Rd at h
  simp only [insW, h]
  rfl
theorem put_row {y : W} : putW "row" y [] = [(("row" : Str), y)] := rfl
theorem put_words {y v : W} : putW "words" y [(("row" : Str), v)] = [(("row" : Str), v), (("words" : Str), y)] := rfl
theorem put_at0 {y v u : W} : putW "at" y [(("row" : Str), v), (("words" : Str), u)] = [(("row" : Str), v), (("words" : Str), u), (("at" : Str), y)] := rfl
theorem put_at {y v u w : W} : putW "at" y [(("row" : Str), v), (("words" : Str), u), (("at" : Str), w)] = [(("row" : Str), v), (("words" : Str), u), (("at" : Str), y)] := rfl
def sp_Reader_ini : Nat → Wp := fun _ ws M Q _ => ∃ (x : Addr) (row : Int) (toks : List Str), ws = [.ref x, .int row, .lst (toks.map W.str)] ∧ M x = some (.ins 22 []) ∧ ∀ M', Rd x row toks 0 M' → Fx1 x M M' → Q .non M'
theorem keep_Reader_ini {Γ : Gam} {k : Nat} : KeepC Γ n_Reader_ini 3 c_Reader_ini (sp_Reader_ini k) := by
  rintro ws M Q Ex ⟨x, row, toks, rfl, hx, q⟩
  refine ⟨rfl, ?_⟩
  show dSs Γ _ _ [some (.ref x), some (.int row), some (.lst (toks.map W.str))] M
  simp only [evs_, c_Reader_ini_2, c_Reader_ini_1, c_Reader_ini]
  refine ⟨_, _, hx, by decide, _, _, mup_at, by simp [put_row], _, _, mup_at, by simp [put_row, put_words], ?_⟩
  refine q _ ?_ fun b o hb h1 => by rw [mup_off h1, mup_off h1, mup_off h1]; exact hb
  unfold Rd
  rw [mup_at, put_row, put_words, put_at0]
  rfl
def sp_Reader_taken : Nat → Wp := fun _ ws M Q _ => ∃ (x : Addr) (row : Int) (toks : List Str) (i : Nat) (t : Str), ws = [.ref x] ∧ Rd x row toks i M ∧ toks[i]? = some t ∧ ∀ M', Rd x row toks (i + 1) M' → Fx1 x M M' → Q (.str t) M'
theorem keep_Reader_taken {Γ : Gam} {k : Nat} : KeepC Γ n_Reader_taken 1 c_Reader_taken (sp_Reader_taken k) := by
  rintro ws M Q Ex ⟨x, row, toks, i, t, rfl, hx, ht, q⟩
  refine ⟨rfl, ?_⟩
  show dSs Γ _ _ [some (.ref x)] M
  have hi : i < toks.length := (List.getElem?_eq_some_iff.mp ht).1
  have hn : ¬ ((toks.length : Int) ≤ (i : Int)) := by omega
  simp only [evs_, c_Reader_taken, fld_at hx, fld_words hx, List.length_map, hn]
  have hx' := hx
  unfold Rd at hx'
  have h2 : Rd x row toks (i + 1) (mup M x (.ins 22 (putW "at" (.int ((i : Int) + 1)) [("row", .int row), ("words", .lst (toks.map W.str)), ("at", .int i)]))) := by
    unfold Rd
    rw [mup_at, put_at]
    rfl
  simp only [evs_, c_Reader_taken_1, fld_at hx]
  refine ⟨_, _, hx', by simp, ?_⟩
  simp only [evs_, c_Reader_taken_2, fld_at h2, fld_words h2, Int.add_sub_cancel]
  refine ⟨_, atN (w := .str t) (by rw [List.getElem?_map, ht]; rfl), q _ h2 fun b o hb h1 => by rw [mup_off h1]; exact hb⟩
def numOk (n : Nat) : Bool := let s := numS n
  decide (1 ≤ s.length) && decide (s.length ≤ 2) && s.cps.toList.all (fun c => (Str.ofString "0123456789").cps.toList.contains c) && (match s.cps.toList with | c :: r => !(c == 48) || r.isEmpty && decide (s = "0") | [] => false)
theorem numOk_all : ∀ n : Nat, n < 100 → numOk n = true := by decide +kernel
def sp_Reader_number : Nat → Wp := fun k ws M Q _ => ∃ (x : Addr) (row : Int) (toks : List Str) (i n : Nat), ws = [.ref x] ∧ Rd x row toks i M ∧ toks[i]? = some (numS n) ∧ n ≤ 99 ∧ 1 ≤ k ∧ ∀ M', Rd x row toks (i + 1) M' → Fx1 x M M' → Q (.int n) M'
theorem use_taken {k : Nat} {x : Addr} {row : Int} {toks : List Str} {i : Nat} {t : Str} {M : Mh} {Q : QW} {Ex : QX} (h : Rd x row toks i M) (ht : toks[i]? = some t) (q : ∀ M', Rd x row toks (i + 1) M' → Fx1 x M M' → Q (.str t) M') : sp_Reader_taken k [.ref x] M Q Ex := ⟨x, row, toks, i, t, rfl, h, ht, q⟩
theorem not_name : ∀ m : Str, m ∈ ([("taken" : Str), ("number" : Str), ("body" : Str), ("a_function" : Str)]) → m ∉ ([("row" : Str), ("words" : Str), ("at" : Str)]) := by decide
theorem keep_Reader_number {Γ : Gam} {k : Nat} (g_MOST_FIGURES : Γ.gl 4 = .int 2) (g_FIGURES : Γ.gl 0 = .str "0123456789") (mn_taken : Γ.meN 19 = "taken") (m_Reader_taken : Γ.me 22 19 = some (dn sp_Reader_taken k)) : KeepC Γ n_Reader_number 1 c_Reader_number (sp_Reader_number k) := by
  rintro ws M Q Ex ⟨x, row, toks, i, n, rfl, hx, ht, hn, hk, q⟩
  refine ⟨rfl, ?_⟩
  show dSs Γ _ _ [some (.ref x), none, none, none] M
  cases k with
  | zero => omega
  | succ k =>
  simp only [evs_, c_Reader_number, g_MOST_FIGURES, g_FIGURES, mn_taken, m_Reader_taken, dn, ins_rd hx, Prod.mk.injEq]
  refine ⟨not_name _ (by simp), use_taken hx ht fun M1 h1 f1 => ?_⟩
  have ok := numOk_all n (by omega)
  unfold numOk at ok
  simp only [Bool.and_eq_true, decide_eq_true_eq, List.all_eq_true] at ok
  obtain ⟨⟨⟨l1, l2⟩, hF⟩, h0⟩ := ok
  have hi : PySem.intText? (numS n) = some (n : Int) := TL.int_num (Nat.le_trans (TL.numL_len (k := 2) (by decide) (by omega)) (by decide))
  generalize numS n = s at l1 l2 hF h0 hi
  have b1 : (1 : Int) ≤ (s.length : Int) := by omega
  have b2 : (s.length : Int) ≤ 2 := by omega
  simp only [evs_, c_Reader_number_1, dLc, wipeW, g_MOST_FIGURES, g_FIGURES, mn_taken, m_Reader_taken, dn, b1, b2]
  refine ⟨szl (by omega), szl (by simp [signs]; exact Nat.le_trans l2 (by decide)), lc_of (s.cps.toList.map fun c => (.str ⟨#[c]⟩, none)) (by simp [signs, Function.comp]) (fun _ _ _ => trivial) (fun D hD p hp us => ?_) ?_⟩
  · obtain ⟨c, hc, rfl⟩ := List.mem_map.mp hp
    refine ⟨_, rfl, fun R h => ?_, fun y hy => nomatch hy⟩
    have hc2 : c ∈ (Str.ofString "0123456789").cps.toList := List.contains_iff_mem.mp (hF c hc)
    simp only [evs_, g_MOST_FIGURES, g_FIGURES, mn_taken, m_Reader_taken, dn]
    refine .inr ⟨true, ⟨c, rfl, (decide_eq_true hc2).symm⟩, false, rfl, h⟩
  · have e : (s.cps.toList.map fun c => ((.str ⟨#[c]⟩, none) : W × Option W)).filterMap (·.2) = [] := by
      generalize s.cps.toList = l
      induction l with
      | nil => rfl
      | cons c l ih => rw [List.map_cons, List.filterMap_cons]; exact ih
    rw [e]
    simp only [evs_, eq_nilL, c_Reader_number_2]
    have fin : dSs Γ c_Reader_number_3 { nx := fun x M' => Q W.non M', rt := Q, ex := Ex } [some (W.ref x), some (W.str s), some (W.bl true), none] M1 := by
      simp only [evs_, c_Reader_number_3]
      exact ⟨n, hi, Nat.le_trans l2 (by decide), q M1 h1 f1⟩
    cases hl : s.cps.toList with
    | nil => rw [hl] at h0; cases h0
    | cons c r =>
      refine ⟨szl (by omega), c, by simp [atI, ixN], ?_⟩
      rw [hl] at h0
      by_cases hs : ({ cps := #[c] } : Str) = Str.ofString "0"
      · have hc : c = 48 := by
          have : (#[c] : Array Nat) = (Str.ofString "0").cps := congrArg Str.cps hs
          have e2 : (Str.ofString "0").cps = #[48] := rfl
          rw [e2] at this
          simpa using this
        subst hc
        have : s = Str.ofString "0" := by simp at h0; exact h0.2
        rw [if_pos hs, if_neg (fun z => z this)]
        exact fin
      · rw [if_neg hs, if_neg hs]
        exact fin
def sp_Reader_body : Nat → Wp := fun k ws M Q _ => ∃ (x : Addr) (row : Int) (toks pre post : List Str) (b : Bd) (m : Nat), ws = [.ref x] ∧ Rd x row toks pre.length M ∧ toks = pre ++ (b.toks ++ post) ∧ b.ok m ∧ m ≤ 99 ∧ b.ht + 2 ≤ k ∧ ∀ M', Rd x row toks (pre.length + b.toks.length) M' → Fx1 x M M' → Q b.enc M'
theorem use_number {k : Nat} {x : Addr} {row : Int} {toks : List Str} {i n : Nat} {M : Mh} {Q : QW} {Ex : QX} (h : Rd x row toks i M) (ht : toks[i]? = some (numS n)) (hn : n ≤ 99) (hk : 1 ≤ k) (q : ∀ M', Rd x row toks (i + 1) M' → Fx1 x M M' → Q (.int n) M') : sp_Reader_number k [.ref x] M Q Ex := ⟨x, row, toks, i, n, rfl, h, ht, hn, hk, q⟩
theorem use_rbody {k m : Nat} {x : Addr} {row : Int} {toks : List Str} (pre post : List Str) {i : Nat} {b : Bd} {M : Mh} {Q : QW} {Ex : QX} (h : Rd x row toks i M) (hi : i = pre.length) (ht : toks = pre ++ (b.toks ++ post)) (ok : b.ok m) (hm : m ≤ 99) (hk : b.ht + 2 ≤ k) (q : ∀ M', Rd x row toks (i + b.toks.length) M' → Fx1 x M M' → Q b.enc M') :
    sp_Reader_body k [.ref x] M Q Ex := ⟨x, row, toks, pre, post, b, m, rfl, by rw [← hi]; exact h, ht, ok, hm, hk, by rw [← hi]; exact q⟩
theorem app_ref {M : Mh} {a : Addr} {ws : List W} {y : W} {Q : QW} (h : M a = some (.lst ws)) : appendW (.ref a) [y] M Q = (ws.length < sizeLine ∧ Q .non (mup M a (.lst (ws ++ [y])))) := by
  show (∃ ws', M a = some (.lst ws') ∧ ws'.length < sizeLine ∧ Q .non (mup M a (.lst (ws' ++ [y])))) = _
  simp [h]
theorem recv_ref {M : Mh} {a : Addr} {ws : List W} {b : BM} (h : M a = some (.lst ws)) : BM.recv M b (.ref a) = (b.cls = "list") := by
  show (b.cls = "list" ∧ ∃ us, M a = some (.lst us)) = _
  simp [h]
theorem Rd.up {x D : Addr} {row : Int} {toks : List Str} {i : Nat} {M : Mh} {o : MO} (h : Rd x row toks i M) (ne : x ≠ D) : Rd x row toks i (mup M D o) := by unfold Rd; rw [mup_off ne]; exact h
inductive Pt where
  | nu (n : Nat) | bd (b : Bd)
def Pt.enc : Pt → W
  | .nu n => .int n
  | .bd b => b.enc
def Pt.toks : Pt → List Str
  | .nu n => [numS n]
  | .bd b => b.toks
def Pt.isB : Pt → Bool
  | .nu _ => false
  | .bd _ => true
def Bd.word : Bd → Str
  | .num _ => "num"
  | .arg => "argument"
  | .way _ => "way"
  | .plus _ _ => "plus"
  | .less _ _ => "less"
  | .times _ _ => "times"
  | .iff _ _ _ => "if"
  | .thn _ _ => "then"
  | .say _ => "say"
  | .call _ _ => "call"
  | .thr _ _ => "through"
def Bd.pts : Bd → List (Str × Pt)
  | .num n => [("n", .nu n)]
  | .arg => []
  | .way f => [("f", .nu f)]
  | .plus a b => [("x", .bd a), ("x", .bd b)]
  | .less a b => [("x", .bd a), ("x", .bd b)]
  | .times a b => [("x", .bd a), ("x", .bd b)]
  | .iff a b c => [("x", .bd a), ("x", .bd b), ("x", .bd c)]
  | .thn a b => [("x", .bd a), ("x", .bd b)]
  | .say a => [("x", .bd a)]
  | .call f a => [("f", .nu f), ("x", .bd a)]
  | .thr a b => [("x", .bd a), ("x", .bd b)]
def ptToks : List (Str × Pt) → List Str
  | [] => []
  | p :: ps => p.2.toks ++ ptToks ps
theorem Bd.toks_pts (b : Bd) : b.toks = b.word :: ptToks b.pts := by cases b <;> simp [Bd.toks, Bd.word, Bd.pts, ptToks, Pt.toks]
theorem Bd.enc_pts (b : Bd) : b.enc = .tup (.str b.word :: b.pts.map fun p => p.2.enc) := by cases b <;> rfl
def Bd.arms : Bd → Str
  | .num _ => "n"
  | .arg => ""
  | .way _ => "f"
  | .iff _ _ _ => "xxx"
  | .say _ => "x"
  | .call _ _ => "fx"
  | _ => "xx"
theorem Bd.tl_arms (b : Bd) : tlook ARMS b.word = some (.str b.arms) := by cases b <;> rfl
theorem Bd.sg_arms (b : Bd) : signs b.arms = b.pts.map fun p => .str p.1 := by cases b <;> rfl
def PtOk (m k : Nat) (p : Str × Pt) : Prop := match p.2 with
  | .nu n => n ≤ 99 ∧ p.1 ≠ "x"
  | .bd b => b.ok m ∧ b.ht + 2 ≤ k ∧ p.1 = "x"
theorem Bd.pts_ok {m k : Nat} (hm : m ≤ 99) {b : Bd} (ok : b.ok m) (hk : b.ht + 2 ≤ k + 1) : ∀ p ∈ b.pts, PtOk m k p := by
  have nx : (("n" : Str) ≠ "x") := by decide
  have fx : (("f" : Str) ≠ "x") := by decide
  cases b <;> simp only [Bd.pts, List.mem_cons, List.not_mem_nil, or_false, forall_eq_or_imp, forall_eq, false_imp_iff, implies_true] <;> simp only [Bd.ht] at hk
  case num n => exact ⟨ok, nx⟩
  case way f => have ok : f < m := ok; exact ⟨by omega, fx⟩
  case iff a b c => exact ⟨⟨ok.1, by omega, rfl⟩, ⟨ok.2.1, by omega, rfl⟩, ⟨ok.2.2, by omega, rfl⟩⟩
  case say a => exact ⟨ok, by omega, rfl⟩
  case call f a => have ok1 := ok.1; exact ⟨⟨by omega, fx⟩, ⟨ok.2, by omega, rfl⟩⟩
  all_goals exact ⟨⟨ok.1, by omega, rfl⟩, ⟨ok.2, by omega, rfl⟩⟩
theorem Bd.pts_len (b : Bd) : b.pts.length ≤ 3 := by cases b <;> simp [Bd.pts]
theorem keep_Reader_body {Γ : Gam} {k : Nat} (k_ARMS : Γ.kd 0 = ARMS) (mn_taken : Γ.meN 19 = "taken") (m_Reader_taken : Γ.me 22 19 = some (dn sp_Reader_taken k)) (mn_body : Γ.meN 21 = "body") (m_Reader_body : Γ.me 22 21 = some (dn sp_Reader_body k)) (mn_number : Γ.meN 20 = "number") (m_Reader_number : Γ.me 22 20 = some (dn sp_Reader_number k)) : KeepC Γ n_Reader_body 1 c_Reader_body (sp_Reader_body k) := by
  rintro ws M Q Ex ⟨x, row, toks, pre, post, b, m, rfl, hx, ht, ok, hm, hk, q⟩
  refine ⟨rfl, ?_⟩
  show dSs Γ _ _ [some (.ref x), none, none, none] M
  cases k with
  | zero => omega
  | succ k =>
  simp only [evs_, c_Reader_body, k_ARMS, mn_taken, m_Reader_taken, mn_body, m_Reader_body, mn_number, m_Reader_number, dn, ins_rd hx, Prod.mk.injEq]
  refine ⟨not_name _ (by simp), ?_⟩
  have e0 : toks[pre.length]? = some b.word := by rw [ht, b.toks_pts]; simp
  refine use_taken hx e0 fun M1 h1 f1 => ?_
  simp only [evs_, c_Reader_body_1, c_Reader_body_2, k_ARMS, mn_taken, m_Reader_taken, mn_body, m_Reader_body, mn_number, m_Reader_number, dn, b.tl_arms, Option.isSome_some]
  refine ⟨by decide, fun L hL => ?_⟩
  have nL : x ≠ L := fun z => by rw [← z] at hL; unfold Rd at h1; rw [h1] at hL; cases hL
  have h2 := h1.up (o := .lst [.str b.word]) nL
  have f2 : Fx1 x M (mup M1 L (.lst [.str b.word])) := fun c o hc h3 => by
    rw [mup_off (fun z => by have := f1 c o hc h3; rw [z, hL] at this; cases this)]
    exact f1 c o hc h3
  have hf : ∀ M', Fx1 x M1 M' → Fx1 x M M' := fun M' f => f1.trans f
  simp only [evs_, c_Reader_body_3, k_ARMS, mn_taken, m_Reader_taken, mn_body, m_Reader_body, mn_number, m_Reader_number, dn, b.tl_arms, b.sg_arms]
  have key : ∀ (ps : List (Str × Pt)) (acc : List W) (pre' : List Str) (y : Option W) M', (∀ p ∈ ps, PtOk m k p) → Rd x row toks pre'.length M' → M' L = some (.lst acc) → acc.length + ps.length ≤ 10 → toks = pre' ++ (ptToks ps ++ post) → Fx1 x M M' →
      (∀ M'', Rd x row toks (pre'.length + (ptToks ps).length) M'' → Fx1 x M M'' → Q (.tup (acc ++ ps.map fun p => p.2.enc)) M'') →
      forW (fun _ => True) (.name 3) (dSs Γ c_Reader_body_6) (ps.map fun p => .str p.1) { nx := dSs Γ c_Reader_body_4 { nx := fun x M' => Q W.non M', rt := Q, ex := Ex }, rt := Q, ex := Ex } [some (.ref x), some (.str b.word), some (.ref L), y] M' := by
    intro ps
    induction ps with
    | nil =>
      intro acc pre' y M' _ hr hL' _ _ hfx hq
      simp only [evs_, List.map_nil, for_nil, c_Reader_body_4, sv_ref hL']
      have := hq M' (by simpa [ptToks] using hr) hfx
      simpa using this
    | cons p ps ih =>
      intro acc pre' y M' hok hr hL' hlen htk hfx hq
      have pok := hok p (by simp)
      obtain ⟨sg, pt⟩ := p
      simp only [evs_, List.map_cons, for_cons, c_Reader_body_6, k_ARMS, mn_taken, m_Reader_taken, mn_body, m_Reader_body, mn_number, m_Reader_number, dn, recv_ref hL', cls_app, BM.w, ins_rd hr, Prod.mk.injEq]
      cases pt with
      | nu n =>
        have pok : n ≤ 99 ∧ sg ≠ "x" := pok
        simp only [pok.2, if_false]
        refine ⟨not_name _ (by simp), use_number hr (by rw [htk]; simp [ptToks, Pt.toks]) pok.1 (by omega) fun M2 hr2 fx2 => ?_⟩
        have hL2 := fx2 L _ hL' (Ne.symm nL)
        rw [app_ref hL2]
        refine ⟨Nat.lt_of_le_of_lt (by simp at hlen; omega : acc.length ≤ 10) (by decide), ih (acc ++ [.int n]) (pre' ++ [numS n]) _ _ (fun p hp => hok p (List.mem_cons_of_mem _ hp)) ?_ mup_at (by simp at hlen ⊢; omega) (by rw [htk]; simp [ptToks, Pt.toks]) (fun c o hc h3 => ?_) fun M'' hr3 fx3 => ?_⟩
        · rw [List.length_append]
          exact hr2.up nL
        · rw [mup_off (fun z => ?_)]
          · exact fx2 c o (hfx c o hc h3) h3
          · have := f1 c o hc h3
            rw [z, hL] at this
            cases this
        · have := hq M'' (by simpa [ptToks, Pt.toks, Nat.add_assoc, Nat.add_comm, Nat.add_left_comm] using hr3) fx3
          simpa [Pt.enc] using this
      | bd c =>
        have pok : c.ok m ∧ c.ht + 2 ≤ k ∧ sg = "x" := pok
        simp only [pok.2.2, if_true]
        refine ⟨not_name _ (by simp), use_rbody pre' (ptToks ps ++ post) hr rfl (by rw [htk]; simp [ptToks, Pt.toks]) pok.1 hm pok.2.1 fun M2 hr2 fx2 => ?_⟩
        have hL2 := fx2 L _ hL' (Ne.symm nL)
        rw [app_ref hL2]
        refine ⟨Nat.lt_of_le_of_lt (by simp at hlen; omega : acc.length ≤ 10) (by decide), ih (acc ++ [c.enc]) (pre' ++ c.toks) _ _ (fun p hp => hok p (List.mem_cons_of_mem _ hp)) ?_ mup_at (by simp at hlen ⊢; omega) (by rw [htk]; simp [ptToks, Pt.toks]) (fun d o hc h3 => ?_) fun M'' hr3 fx3 => ?_⟩
        · rw [List.length_append]
          exact hr2.up nL
        · rw [mup_off (fun z => ?_)]
          · exact fx2 d o (hfx d o hc h3) h3
          · have := f1 d o hc h3
            rw [z, hL] at this
            cases this
        · have := hq M'' (by simpa [ptToks, Pt.toks, Nat.add_assoc, Nat.add_comm, Nat.add_left_comm] using hr3) fx3
          simpa [Pt.enc] using this
  refine key b.pts [.str b.word] (pre ++ [b.word]) none _ (Bd.pts_ok hm ok hk) (by rw [List.length_append]; exact h2) mup_at (by have := b.pts_len; simp; omega) (by rw [ht, b.toks_pts]; simp) f2 fun M'' hr3 fx3 => ?_
  have := q M'' (by rw [b.toks_pts]; simpa [Nat.add_assoc, Nat.add_comm, Nat.add_left_comm] using hr3) fx3
  rw [b.enc_pts] at this
  exact this
end WL
namespace WL
open PySem L2
local macro_rules | `(tactic| simp only [evs_, $xs,*]) => `(tactic| simp only [dX, dXs, dXo, dXi, dSc, d2, d1, dN, dVar, dC, dTup, dLst, dTru, dB, dChain, dIte, dNotV, dNotT, dJoinV, dJoinT, dNil, dCons, dCall, dBM, dIsi, dIsi2, dAttr, dMeth, dNew, dDget, dDin, dDnew, dKidx, dKin, dKget, dDisp, dFrz, dRev, dLrg, dSset, dSlice, dNoPart, dPart, dDfz, dRaise, dTry, dCatch, dKind, isx_eq, xfl_eq, dIsc, Gam.low, dAsg, dExpr, dRet, dIf, dFld, dSet, dDput, dNever, dFor, dNext, binP, cmpP, iSeqD, iRg1, iRg2, iZip, iEnumD, Tg.asg, setAll, List.set, List.map_cons, List.map_nil, subW, modW, fdivW, powW, ltW, leW, gtW, geW, newL, finD, frzO, tupW, listW, oneW, twoW, BI.w, ints_eq, add_int, add_str, add_tup, add_lst, mul_int, mul_lst, mul_tup, idx_tup, idx_lst, idx_scr, idx_str, len_tup, len_lst, len_scr, len_str, sl_tup, sl_lst, neg_int, str_int, str_str, int_int, int_bl, is_non, is_int, is_str, is_tup, is_lst, is_bl, is_bb, dss_cons, eq_int, eq_str, eq_bl, ne_int, ne_str, ne_bl, eq_nilL, ty_non, ty_bl, ty_int, ty_str, ty_tup, ty_lst, ty_scr, ty_dk, Ty.sub, tr_bl, tr_non, tr_int, tr_str, sv_lst, sv_tup, sv_scr, lv_lst, at0, at1, at2, cut1, len0, ss_nil, for_nil, for_cons, pairs_cons, pairs_nil, pairs_nil', walk_lst, walk_scr, walk_tup, walk_str, walk_ref, List.getElem?_cons_zero, List.getElem?_cons_succ, List.length_cons, List.length_nil, List.append_nil, List.cons_append, List.nil_append, Option.some.injEq, W.int.injEq, W.str.injEq, W.bl.injEq, W.tup.injEq, W.lst.injEq, W.ref.injEq, List.cons.injEq, Option.map_some, exists_and_left, exists_and_right, exists_eq_left, exists_eq_left', exists_eq, exists_eq', exists_eq_right, exists_eq_right', and_true, true_and, and_assoc, reduceIte, reduceCtorEq, decide_true, decide_false, decide_eq_true_eq, decide_eq_false_iff_not, Bool.not_eq_true', Bool.not_eq_false', Bool.true_eq_false, Bool.false_eq_true, if_true, if_false, Bool.not_true, Bool.not_false, ite_true, ite_false, Int.cast_ofNat_Int, Int.reduceAdd, Int.reduceSub, Int.reduceEq, Int.reduceLT, Int.reduceLE, Int.natCast_add, Nat.reduceEqDiff, Nat.reduceAdd, Nat.add_zero, Nat.zero_add, Nat.succ_ne_zero, not_true_eq_false, not_false_eq_true, Option.getD_some, Option.getD_none, Option.isSome_some, Option.isSome_none, $xs,*])
def Free (t : Str) : Prop := 32 ∉ TL.tl t ∧ 10 ∉ TL.tl t
theorem free_num (n : Nat) : Free (numS n) := by
  unfold Free numS
  rw [TL.tl_num]
  exact ⟨TL.numL_free (by decide), TL.numL_free (by decide)⟩
theorem free_w {t : Str} (h : ((TL.tl t).contains 32 || (TL.tl t).contains 10) = false) : Free t := by
  rw [Bool.or_eq_false_iff] at h
  exact ⟨fun z => (by rw [List.contains_iff_mem.mpr z] at h; cases h.1), fun z => (by rw [List.contains_iff_mem.mpr z] at h; cases h.2)⟩
theorem Bd.word_free (b : Bd) : Free b.word := by cases b <;> exact free_w rfl
theorem Bd.toks_free : ∀ b : Bd, ∀ t ∈ b.toks, Free t
  | .num n, t, h => by
    rcases List.mem_cons.mp h with rfl | h
    · exact (Bd.num n).word_free
    · rw [List.mem_singleton.mp h]; exact free_num n
  | .arg, t, h => by rw [List.mem_singleton.mp h]; exact Bd.arg.word_free
  | .way n, t, h => by
    rcases List.mem_cons.mp h with rfl | h
    · exact (Bd.way n).word_free
    · rw [List.mem_singleton.mp h]; exact free_num n
  | .plus a b, t, h => by
    rcases List.mem_cons.mp h with rfl | h
    · exact (Bd.plus a b).word_free
    · rcases List.mem_append.mp h with h | h
      · exact a.toks_free t h
      · exact b.toks_free t h
  | .less a b, t, h => by
    rcases List.mem_cons.mp h with rfl | h
    · exact (Bd.less a b).word_free
    · rcases List.mem_append.mp h with h | h
      · exact a.toks_free t h
      · exact b.toks_free t h
  | .times a b, t, h => by
    rcases List.mem_cons.mp h with rfl | h
    · exact (Bd.times a b).word_free
    · rcases List.mem_append.mp h with h | h
      · exact a.toks_free t h
      · exact b.toks_free t h
  | .iff a b c, t, h => by
    rcases List.mem_cons.mp h with rfl | h
    · exact (Bd.iff a b c).word_free
    · rcases List.mem_append.mp h with h | h
      · exact a.toks_free t h
      · rcases List.mem_append.mp h with h | h
        · exact b.toks_free t h
        · exact c.toks_free t h
  | .thn a b, t, h => by
    rcases List.mem_cons.mp h with rfl | h
    · exact (Bd.thn a b).word_free
    · rcases List.mem_append.mp h with h | h
      · exact a.toks_free t h
      · exact b.toks_free t h
  | .say a, t, h => by
    rcases List.mem_cons.mp h with rfl | h
    · exact (Bd.say a).word_free
    · exact a.toks_free t h
  | .call f a, t, h => by
    rcases List.mem_cons.mp h with rfl | h
    · exact (Bd.call f a).word_free
    · rcases List.mem_cons.mp h with rfl | h
      · exact free_num f
      · exact a.toks_free t h
  | .thr a b, t, h => by
    rcases List.mem_cons.mp h with rfl | h
    · exact (Bd.thr a b).word_free
    · rcases List.mem_append.mp h with h | h
      · exact a.toks_free t h
      · exact b.toks_free t h
theorem line_free (f : Nat × Bd) : ∀ t ∈ lineT f, Free t := fun t h => by
  rcases List.mem_cons.mp h with rfl | h
  · exact free_num _
  · exact f.2.toks_free t h
theorem mem_joinL {S : List Nat} {s : Nat} : ∀ {ps : List (List Nat)}, s ∈ TL.joinL S ps → s ∈ S ∨ ∃ p ∈ ps, s ∈ p
  | [], h => by simp [TL.joinL] at h
  | [p], h => .inr ⟨p, by simp, h⟩
  | p :: q :: r, h => by
    rcases List.mem_append.mp h with h | h
    · exact .inr ⟨p, by simp, h⟩
    · rcases List.mem_append.mp h with h | h
      · exact .inl h
      · rcases mem_joinL h with h | ⟨z, hz, h⟩
        · exact .inl h
        · exact .inr ⟨z, List.mem_cons_of_mem _ hz, h⟩
theorem lineS_free (f : Nat × Bd) : 10 ∉ TL.tl (lineS f) := fun h => by
  unfold lineS at h
  rw [TL.join_eq, TL.tl_join] at h
  rcases mem_joinL h with h | ⟨p, hp, h⟩
  · have e : TL.tl (Str.ofString " ") = [32] := rfl
    rw [e] at h
    simp at h
  · obtain ⟨t, ht, rfl⟩ := List.mem_map.mp hp
    exact (line_free f t ht).2 h
theorem split_line (f : Nat × Bd) : Txt.split (lineS f) " " = lineT f :=
  TL.split_join (s := 32) (S := []) rfl (by decide +kernel) (by simp [lineT]) fun p hp => (line_free f p hp).1
theorem split_prog {p : List (Nat × Bd)} (h : p ≠ []) : Txt.split (progT p) "\n" = p.map lineS :=
  TL.split_join (s := 10) (S := []) rfl (by decide +kernel) (by simpa using h) fun q hq => by
    obtain ⟨f, _, rfl⟩ := List.mem_map.mp hq
    exact lineS_free f
def sp_Reader_a_function : Nat → Wp := fun k ws M Q _ => ∃ (x : Addr) (row : Int) (f : Nat × Bd) (m : Nat), ws = [.ref x] ∧ Rd x row (lineT f) 0 M ∧ FOk m f ∧ m ≤ 99 ∧ 9 ≤ k ∧ ∀ M', Fx1 x M M' → Q (encF f) M'
theorem keep_Reader_a_function {Γ : Gam} {k : Nat} (mn_number : Γ.meN 20 = "number") (m_Reader_number : Γ.me 22 20 = some (dn sp_Reader_number k)) (mn_body : Γ.meN 21 = "body") (m_Reader_body : Γ.me 22 21 = some (dn sp_Reader_body k)) : KeepC Γ n_Reader_a_function 1 c_Reader_a_function (sp_Reader_a_function k) := by
  rintro ws M Q Ex ⟨x, row, f, m, rfl, hx, ok, hm, hk, q⟩
  refine ⟨rfl, ?_⟩
  show dSs Γ _ _ [some (.ref x), none] M
  cases k with
  | zero => omega
  | succ k =>
  simp only [evs_, c_Reader_a_function, mn_number, m_Reader_number, mn_body, m_Reader_body, dn, ins_rd hx, Prod.mk.injEq]
  refine ⟨not_name _ (by simp), use_number hx rfl (by have := ok.s8; omega) (by omega) fun M1 h1 f1 => ?_⟩
  simp only [evs_, ins_rd h1, Prod.mk.injEq, mn_number, m_Reader_number, mn_body, m_Reader_body, dn]
  refine ⟨not_name _ (by simp), use_rbody [numS f.1] [] h1 rfl (by simp [lineT]) ok.ok hm (by have := ok.ht; omega) fun M2 h2 f2 => ?_⟩
  have hn : ¬ (1 + (f.2.toks.length : Int) < ((lineT f).length : Int)) := by simp [lineT]; omega
  simp only [evs_, c_Reader_a_function_1, fld_at h2, fld_words h2, List.length_map, c_Reader_a_function_2]
  refine ⟨by decide, ?_⟩
  rw [if_neg hn]
  exact q M2 (f1.trans f2)
def Fr0 (M M' : Mh) : Prop := ∀ b o, M b = some o → M' b = some o
theorem enums_getI {as : List W} {i : Nat} {w : W} (h : (enums 0 as)[i]? = some w) : ∃ a, as[i]? = some a ∧ w = .tup [.int i, a] := by
  obtain ⟨a, h1, h2⟩ := enums_get h
  exact ⟨a, h1, by rw [h2, Nat.zero_add]⟩
def sp_read : Nat → Wp := fun k ws M Q _ => ∃ p : List (Nat × Bd), ws = [.str (progT p)] ∧ PrOk p ∧ 12 ≤ k ∧ ∀ M', Fr0 M M' → Q (encP p) M'
theorem keep_read {Γ : Gam} {k : Nat} (f_need_program : Γ.fn 3 = dn sp_need_program k) (mn_a_function : Γ.meN 22 = "a_function") (m_Reader_a_function : Γ.me 22 22 = some (dn sp_Reader_a_function k)) (i_Reader : Γ.ini 22 = dn2 sp_Reader_ini k) : KeepC Γ n_read 1 c_read (sp_read k) := by
  rintro ws M Q Ex ⟨p, rfl, ok, hk, q⟩
  refine ⟨rfl, ?_⟩
  show dSs Γ _ _ [some (.str (progT p)), none, none, none] M
  obtain ⟨k, rfl⟩ : ∃ j, k = j + 2 := ⟨k - 2, by omega⟩
  have hp : p ≠ [] := fun z => by have := ok.l1; rw [z] at this; cases this
  have hs : splitW false (.str (progT p)) [.str "\n"] = fun M Q => Q (.lst ((p.map lineS).map W.str)) M := by
    funext M Q
    show ((Str.length "\n" == 0) = false ∧ (progT p).length + 2 ≤ sizeLine ∧ newL false ((Txt.split (progT p) "\n").map W.str) M Q) = _
    rw [split_prog hp]
    have e1 : (Str.length "\n" == 0) = false := rfl
    have e2 : (progT p).length + 2 ≤ sizeLine := szl (by have := prog_len ok; omega)
    simp [e1, e2, newL]
  have h8 := ok.l8
  simp only [evs_, c_read, c_read_1, f_need_program, mn_a_function, m_Reader_a_function, i_Reader, dn, BM.recv, BM.w]
  intro L hL
  refine ⟨rfl, ?_⟩
  rw [hs]
  simp only [evs_, dX]
  refine for_inv (fun i σ M' => (∃ (y z : Option W), σ = [some (.str (progT p)), some (.ref L), y, z]) ∧ M' L = some (.lst ((p.take i).map encF)) ∧ Fr0 M M') (fun _ _ _ _ => trivial) _ 0 ⟨⟨_, _, rfl⟩, by rw [mup_at]; rfl, fun c o hc => by rw [mup_off (fun z => by rw [z, hL] at hc; cases hc)]; exact hc⟩ (fun i x σ M' K e h hK => ?_) (fun σ M' h => ?_)
  · obtain ⟨⟨y, z, rfl⟩, hL', fr⟩ := h
    obtain ⟨t, ht, rfl⟩ := enums_getI e
    rw [List.getElem?_map, List.getElem?_map] at ht
    have hi : i < p.length := by
      cases e3 : p[i]? with
      | none => rw [e3] at ht; cases ht
      | some f => exact (List.getElem?_eq_some_iff.mp e3).1
    have e3 : p[i]? = some p[i] := List.getElem?_eq_getElem hi
    rw [e3] at ht
    cases ht
    have fo := ok.ok p[i] (List.getElem_mem hi)
    have hl : splitW false (.str (lineS p[i])) [.str " "] = fun M Q => Q (.lst ((lineT p[i]).map W.str)) M := by
      funext M Q
      show ((Str.length " " == 0) = false ∧ (lineS p[i]).length + 2 ≤ sizeLine ∧ newL false ((Txt.split (lineS p[i]) " ").map W.str) M Q) = _
      rw [split_line]
      have e1 : (Str.length " " == 0) = false := rfl
      have e2 : (lineS p[i]).length + 2 ≤ sizeLine := szl (by have := line_len (by omega) fo; omega)
      simp [e1, e2, newL]
    rw [Nat.zero_add] at hL'
    simp only [evs_, c_read_4, BM.recv, BM.w, f_need_program, mn_a_function, m_Reader_a_function, i_Reader, dn, hl]
    refine ⟨rfl, ⟨_, hL'⟩, rfl, fun x hx => ⟨x, i, lineT p[i], rfl, mup_at, fun M2 h2 f2 => ?_⟩⟩
    simp only [evs_, insQ, ins_rd h2, Prod.mk.injEq, f_need_program, mn_a_function, m_Reader_a_function, i_Reader, dn]
    have nL : L ≠ x := fun z => by rw [← z, hL'] at hx; cases hx
    refine ⟨not_name _ (by simp), x, i, p[i], p.length, rfl, h2, fo, by omega, by omega, fun M3 f3 => ?_⟩
    have hL3 := f3 L _ (f2 L _ (by rw [mup_off nL]; exact hL') nL) nL
    show appendW (.ref L) [encF p[i]] M3 _
    rw [app_ref hL3]
    refine ⟨Nat.lt_of_le_of_lt (by rw [List.length_map, List.length_take]; omega : _ ≤ 8) (by decide), hK _ _ ⟨⟨_, _, rfl⟩, ?_, fun c o hc => ?_⟩⟩
    · rw [mup_at, Nat.zero_add, List.take_succ, e3, List.map_append]
      rfl
    · have hc' := fr c o hc
      have ncx : c ≠ x := fun z => by rw [z, hx] at hc'; cases hc'
      rw [mup_off (fun z => by rw [z, hL] at hc; cases hc)]
      exact f3 c o (f2 c o (by rw [mup_off ncx]; exact hc') ncx) ncx
  · obtain ⟨⟨y, z, rfl⟩, hL', fr⟩ := h
    have el : 0 + (enums 0 ((p.map lineS).map W.str)).length = p.length := by rw [enums_length]; simp
    rw [el, List.take_length] at hL'
    simp only [evs_, c_read_2, tupW, sv_ref hL', f_need_program, mn_a_function, m_Reader_a_function, i_Reader, dn]
    refine ⟨p, rfl, ok, by omega, ?_⟩
    simp only [evs_, c_read_3, tupW, sv_ref hL']
    exact q M' fr
end WL
namespace WL
open PySem L2
local macro_rules | `(tactic| simp only [evs_, $xs,*]) => `(tactic| simp only [dX, dXs, dXo, dXi, dSc, d2, d1, dN, dVar, dC, dTup, dLst, dTru, dB, dChain, dIte, dNotV, dNotT, dJoinV, dJoinT, dNil, dCons, dCall, dBM, dIsi, dIsi2, dAttr, dMeth, dNew, dDget, dDin, dDnew, dKidx, dKin, dKget, dDisp, dFrz, dRev, dLrg, dSset, dSlice, dNoPart, dPart, dDfz, dRaise, dTry, dCatch, dKind, isx_eq, xfl_eq, dIsc, Gam.low, dAsg, dExpr, dRet, dIf, dFld, dSet, dDput, dNever, dFor, dNext, binP, cmpP, iSeqD, iRg1, iRg2, iZip, iEnumD, Tg.asg, setAll, List.set, List.map_cons, List.map_nil, subW, modW, fdivW, powW, ltW, leW, gtW, geW, newL, finD, frzO, tupW, listW, oneW, twoW, BI.w, ints_eq, add_int, add_str, add_tup, add_lst, mul_int, mul_lst, mul_tup, idx_tup, idx_lst, idx_scr, idx_str, len_tup, len_lst, len_scr, len_str, sl_tup, sl_lst, neg_int, str_int, str_str, int_int, int_bl, is_non, is_int, is_str, is_tup, is_lst, is_bl, is_bb, dss_cons, eq_int, eq_str, eq_bl, ne_int, ne_str, ne_bl, eq_nilL, ty_non, ty_bl, ty_int, ty_str, ty_tup, ty_lst, ty_scr, ty_dk, Ty.sub, tr_bl, tr_non, tr_int, tr_str, sv_lst, sv_tup, sv_scr, lv_lst, at0, at1, at2, cut1, len0, ss_nil, for_nil, for_cons, pairs_cons, pairs_nil, pairs_nil', walk_lst, walk_scr, walk_tup, walk_str, walk_ref, List.getElem?_cons_zero, List.getElem?_cons_succ, List.length_cons, List.length_nil, List.append_nil, List.cons_append, List.nil_append, Option.some.injEq, W.int.injEq, W.str.injEq, W.bl.injEq, W.tup.injEq, W.lst.injEq, W.ref.injEq, List.cons.injEq, Option.map_some, exists_and_left, exists_and_right, exists_eq_left, exists_eq_left', exists_eq, exists_eq', exists_eq_right, exists_eq_right', and_true, true_and, and_assoc, reduceIte, reduceCtorEq, decide_true, decide_false, decide_eq_true_eq, decide_eq_false_iff_not, Bool.not_eq_true', Bool.not_eq_false', Bool.true_eq_false, Bool.false_eq_true, if_true, if_false, Bool.not_true, Bool.not_false, ite_true, ite_false, Int.cast_ofNat_Int, Int.reduceAdd, Int.reduceSub, Int.reduceEq, Int.reduceLT, Int.reduceLE, Int.natCast_add, Nat.reduceEqDiff, Nat.reduceAdd, Nat.add_zero, Nat.zero_add, Nat.succ_ne_zero, not_true_eq_false, not_false_eq_true, Option.getD_some, Option.getD_none, Option.isSome_some, Option.isSome_none, $xs,*])
def c_l_alike_8 : Ss := .cons (.ret (.lit (.bl false))) .nil
def c_l_alike_9 : Ss := .cons (.ret (.lit (.bl false))) .nil
def c_l_alike_7 : Ss := .cons (.ret (.cmp .Eq (.lc false (.var 2) (.name 2) (.rg1 (.blt false .len (.cons (.var 1) .nil))) (.some (.not (.call 46 (.cons (.idx (.var 0) (.var 2)) (.cons (.idx (.var 1) (.var 2)) .nil))))) [("_law_k", 2)]) (.lst false .nil))) .nil
def c_l_alike_6 : Ss := .cons (.ite (.cmp .NotEq (.blt false .len (.cons (.var 0) .nil)) (.blt false .len (.cons (.var 1) .nil))) c_l_alike_9 .nil) c_l_alike_7
def c_l_alike_5 : Ss := .cons (.ite (.bool false (.cons (.not (.isi2 .tup .lst (.var 0))) (.cons (.cmp .NotEq (.isi .lst (.var 0)) (.isi .lst (.var 1))) .nil))) c_l_alike_8 .nil) c_l_alike_6
def c_l_alike_10 : Ss := .cons (.ret (.cmp .Is (.var 0) (.lit .non))) .nil
def c_l_alike_11 : Ss := .cons (.ret (.bool true (.cons (.isi .str (.var 0)) (.cons (.cmp .Eq (.var 0) (.var 1)) .nil)))) .nil
def c_l_alike_12 : Ss := .cons (.ret (.bool true (.cons (.isi .bl (.var 1)) (.cons (.isi .bl (.var 0)) (.cons (.cmp .Eq (.var 0) (.var 1)) .nil))))) .nil
def c_l_alike_4 : Ss := .cons (.ret (.bool true (.cons (.isi .int (.var 0)) (.cons (.cmp .Eq (.var 0) (.var 1)) .nil)))) .nil
def c_l_alike_3 : Ss := .cons (.ite (.bool false (.cons (.isi .bl (.var 1)) (.cons (.isi .bl (.var 0)) .nil))) c_l_alike_12 .nil) c_l_alike_4
def c_l_alike_2 : Ss := .cons (.ite (.isi .str (.var 1)) c_l_alike_11 .nil) c_l_alike_3
def c_l_alike_1 : Ss := .cons (.ite (.cmp .Is (.var 1) (.lit .non)) c_l_alike_10 .nil) c_l_alike_2
def c_l_alike : Ss := .cons (.ite (.isi2 .tup .lst (.var 1)) c_l_alike_5 .nil) c_l_alike_1
def n_l_alike : List Str := ["_law_found", "_law_due", "_law_k"]
def Alk : Nat → W → Prop
  | _, .non => True
  | _, .bl _ => True
  | _, .int _ => True
  | _, .str _ => True
  | n + 1, .tup ws => ws.length ≤ 1000000 ∧ ∀ w ∈ ws, Alk n w
  | n + 1, .lst ws => ws.length ≤ 1000000 ∧ ∀ w ∈ ws, Alk n w
  | _, _ => False
instance : Inhabited W := ⟨.non⟩
inductive Fa (R : W → W → Prop) : List W → List W → Prop
  | nil : Fa R [] []
  | cons {a b : W} {as bs : List W} (h : R a b) (hs : Fa R as bs) : Fa R (a :: as) (b :: bs)
theorem ty_refl {M : Mh} {a : Addr} {ws : List W} (h : M a = some (.lst ws)) : tyW M (.ref a) = some .lst := by simp only [tyW, h]
def Rs : Nat → Mh → W → W → Prop
  | _, _, w, .non => w = .non
  | _, _, w, .bl b => w = .bl b
  | _, _, w, .int i => w = .int i
  | _, _, w, .str x => w = .str x
  | n + 1, M, w, .tup ds => ds.length ≤ 1000000 ∧ ∃ ws, w = .tup ws ∧ Fa (Rs n M) ws ds
  | n + 1, M, w, .lst ds => ds.length ≤ 1000000 ∧ ∃ ws, (w = .lst ws ∨ ∃ a, w = .ref a ∧ M a = some (.lst ws)) ∧ Fa (Rs n M) ws ds
  | _, _, _, _ => False
theorem fa_mono {R S : W → W → Prop} (h : ∀ w d, R w d → S w d) : ∀ {ws ds : List W}, Fa R ws ds → Fa S ws ds
  | [], _, .nil => .nil
  | _ :: _, _, .cons a b => .cons (h _ _ a) (fa_mono h b)
theorem fa_len {R : W → W → Prop} : ∀ {ws ds : List W}, Fa R ws ds → ws.length = ds.length
  | [], _, .nil => rfl
  | _ :: _, _, .cons a b => by rw [List.length_cons, List.length_cons, fa_len b]
theorem fa_get {R : W → W → Prop} : ∀ {ws ds : List W} {i : Nat} {d : W}, Fa R ws ds → ds[i]? = some d → ∃ w, ws[i]? = some w ∧ R w d
  | [], _, _, _, .nil, h => by simp at h
  | w :: _, d' :: _, 0, d, .cons a b, h => by simp at h; subst h; exact ⟨w, rfl, a⟩
  | _ :: _, _ :: _, i + 1, d, .cons a b, h => by
    obtain ⟨x, h1, h2⟩ := fa_get (i := i) b (by simpa using h)
    exact ⟨x, by simpa using h1, h2⟩
theorem fa_same {R : W → W → Prop} : ∀ {ws : List W}, (∀ w ∈ ws, R w w) → Fa R ws ws
  | [], _ => .nil
  | w :: ws, h => .cons (h w (by simp)) (fa_same fun x hx => h x (List.mem_cons_of_mem _ hx))
theorem fa_map {α : Type} {R : W → W → Prop} {f g : α → W} : ∀ {l : List α}, (∀ a ∈ l, R (f a) (g a)) → Fa R (l.map f) (l.map g)
  | [], _ => .nil
  | a :: l, h => .cons (h a (by simp)) (fa_map fun x hx => h x (List.mem_cons_of_mem _ hx))
theorem Rs.sub {M M' : Mh} (s : Sub M M') : ∀ {n : Nat} {w d : W}, Rs n M w d → Rs n M' w d
  | n, w, .non, h => by cases n <;> exact h
  | n, w, .bl _, h => by cases n <;> exact h
  | n, w, .int _, h => by cases n <;> exact h
  | n, w, .str _, h => by cases n <;> exact h
  | n + 1, w, .tup ds, h => by
    obtain ⟨h1, ws, h2, h3⟩ := h
    exact ⟨h1, ws, h2, fa_mono (fun _ _ => Rs.sub s) h3⟩
  | n + 1, w, .lst ds, h => by
    obtain ⟨h1, ws, h2, h3⟩ := h
    exact ⟨h1, ws, h2.imp id fun ⟨a, e, x⟩ => ⟨a, e, s a _ x⟩, fa_mono (fun _ _ => Rs.sub s) h3⟩
  | 0, _, .tup _, h => h.elim
  | 0, _, .lst _, h => h.elim
  | 0, _, .ref _, h => h.elim
  | 0, _, .scr _, h => h.elim
  | 0, _, .dk _ _, h => h.elim
  | 0, _, .dt _ _, h => h.elim
  | 0, _, .obj _ _ _, h => h.elim
theorem Rs.mono {M : Mh} : ∀ {n m : Nat} {w d : W}, Rs n M w d → n ≤ m → Rs m M w d
  | n, m, w, .non, h, _ => by cases n <;> cases m <;> exact h
  | n, m, w, .bl _, h, _ => by cases n <;> cases m <;> exact h
  | n, m, w, .int _, h, _ => by cases n <;> cases m <;> exact h
  | n, m, w, .str _, h, _ => by cases n <;> cases m <;> exact h
  | n + 1, m + 1, w, .tup ds, h, l => by
    obtain ⟨h1, ws, h2, h3⟩ := h
    exact ⟨h1, ws, h2, fa_mono (fun _ _ x => Rs.mono x (by omega)) h3⟩
  | n + 1, m + 1, w, .lst ds, h, l => by
    obtain ⟨h1, ws, h2, h3⟩ := h
    exact ⟨h1, ws, h2, fa_mono (fun _ _ x => Rs.mono x (by omega)) h3⟩
  | n + 1, 0, _, _, _, l => by omega
  | 0, _, _, .tup _, h, _ => h.elim
  | 0, _, _, .lst _, h, _ => h.elim
  | 0, _, _, .ref _, h, _ => h.elim
  | 0, _, _, .scr _, h, _ => h.elim
  | 0, _, _, .dk _ _, h, _ => h.elim
  | 0, _, _, .dt _ _, h, _ => h.elim
  | 0, _, _, .obj _ _ _, h, _ => h.elim
theorem Alk.rs {M : Mh} : ∀ {n : Nat} {w : W}, Alk n w → Rs n M w w
  | n, .non, _ => by cases n <;> rfl
  | n, .bl _, _ => by cases n <;> rfl
  | n, .int _, _ => by cases n <;> rfl
  | n, .str _, _ => by cases n <;> rfl
  | n + 1, .tup ws, h => ⟨h.1, ws, rfl, fa_same fun w hw => Alk.rs (h.2 w hw)⟩
  | n + 1, .lst ws, h => ⟨h.1, ws, .inl rfl, fa_same fun w hw => Alk.rs (h.2 w hw)⟩
  | 0, .tup _, h => h.elim
  | 0, .lst _, h => h.elim
  | 0, .ref _, h => h.elim
  | 0, .scr _, h => h.elim
  | 0, .dk _ _, h => h.elim
  | 0, .dt _ _, h => h.elim
  | 0, .obj _ _ _, h => h.elim
def sp_l_alike : Nat → Wp := fun k ws M Q _ => ∃ w1 w2 d, ws = [w1, w2] ∧ Rs k M w1 d ∧ Rs k M w2 d ∧ Q (.bl true) M
theorem use_alike {k : Nat} {w1 w2 d : W} {M : Mh} {Q : QW} {Ex : QX} (h1 : Rs k M w1 d) (h2 : Rs k M w2 d) (q : Q (.bl true) M) : sp_l_alike k [w1, w2] M Q Ex := ⟨w1, w2, d, rfl, h1, h2, q⟩
theorem sub_fresh {M : Mh} {a : Addr} {o : MO} (h : M a = none) : Sub M (mup M a o) := fun b u hb => by
  rw [mup_off (fun z => by rw [z, h] at hb; cases hb)]; exact hb
theorem alike_seq {k : Nat} {ws : List W} {M : Mh} {D : Addr} {σ : Sw} : True := trivial
def idxPs (n : Nat) : List (W × Option W) := (List.range n).map fun i : Nat => (.int i, none)
theorem idxPs_fst {n : Nat} : rangeL 0 n = (idxPs n).map (·.1) := by
  unfold rangeL idxPs
  simp [Function.comp]
theorem idxPs_snd {n : Nat} : (idxPs n).filterMap (·.2) = [] := by
  unfold idxPs
  generalize List.range n = l
  induction l with
  | nil => rfl
  | cons i l ih => rw [List.map_cons, List.filterMap_cons]; exact ih
theorem keep_l_alike {Γ : Gam} {k : Nat} (f_l_alike : Γ.fn 46 = dn sp_l_alike k) : KeepC Γ n_l_alike 2 c_l_alike (sp_l_alike k) := by
  rintro ws M Q Ex ⟨w1, w2, d, rfl, h1, h2, q⟩
  refine ⟨rfl, ?_⟩
  show dSs Γ _ _ [some w1, some w2, none] M
  cases d with
  | non =>
    obtain rfl : w1 = .non := by cases k <;> exact h1
    obtain rfl : w2 = .non := by cases k <;> exact h2
    simp only [evs_, c_l_alike_8, c_l_alike_9, c_l_alike_7, c_l_alike_6, c_l_alike_5, c_l_alike_10, c_l_alike_11, c_l_alike_12, c_l_alike_4, c_l_alike_3, c_l_alike_2, c_l_alike_1, c_l_alike, Bool.or_self]; exact q
  | bl b =>
    obtain rfl : w1 = .bl b := by cases k <;> exact h1
    obtain rfl : w2 = .bl b := by cases k <;> exact h2
    simp only [evs_, c_l_alike_8, c_l_alike_9, c_l_alike_7, c_l_alike_6, c_l_alike_5, c_l_alike_10, c_l_alike_11, c_l_alike_12, c_l_alike_4, c_l_alike_3, c_l_alike_2, c_l_alike_1, c_l_alike, Bool.or_self]; exact q
  | int i =>
    obtain rfl : w1 = .int i := by cases k <;> exact h1
    obtain rfl : w2 = .int i := by cases k <;> exact h2
    simp only [evs_, c_l_alike_8, c_l_alike_9, c_l_alike_7, c_l_alike_6, c_l_alike_5, c_l_alike_10, c_l_alike_11, c_l_alike_12, c_l_alike_4, c_l_alike_3, c_l_alike_2, c_l_alike_1, c_l_alike, Bool.or_self]; exact q
  | str s =>
    obtain rfl : w1 = .str s := by cases k <;> exact h1
    obtain rfl : w2 = .str s := by cases k <;> exact h2
    simp only [evs_, c_l_alike_8, c_l_alike_9, c_l_alike_7, c_l_alike_6, c_l_alike_5, c_l_alike_10, c_l_alike_11, c_l_alike_12, c_l_alike_4, c_l_alike_3, c_l_alike_2, c_l_alike_1, c_l_alike, Bool.or_self]; exact q
  | tup ds =>
    cases k with
    | zero => exact h1.elim
    | succ k =>
    obtain ⟨hl, ws1, rfl, f1⟩ := h1
    obtain ⟨_, ws2, rfl, f2⟩ := h2
    have l1 := fa_len f1
    have l2 := fa_len f2
    simp only [evs_, c_l_alike_8, c_l_alike_9, c_l_alike_7, c_l_alike_6, c_l_alike_5, c_l_alike_10, c_l_alike_11, c_l_alike_12, c_l_alike_4, c_l_alike_3, c_l_alike_2, c_l_alike_1, c_l_alike, dLc, wipeW, f_l_alike, dn, Bool.or_false, Bool.or_true, Bool.true_or, Bool.false_or, l1, l2]
    refine ⟨by omega, by omega, by rw [rangeL_len]; exact szl hl, lc_of (idxPs ds.length) idxPs_fst (fun _ _ _ => trivial) (fun D hD p hp us => ?_) (by rw [idxPs_snd, eq_nilL]; exact q)⟩
    obtain ⟨i, hi, rfl⟩ := List.mem_map.mp hp
    have hi := List.mem_range.mp hi
    obtain ⟨x1, g1, r1⟩ := fa_get f1 (List.getElem?_eq_getElem hi)
    obtain ⟨x2, g2, r2⟩ := fa_get f2 (List.getElem?_eq_getElem hi)
    refine ⟨_, rfl, fun R h => ?_, fun y hy => nomatch hy⟩
    simp only [evs_, atN g1, atN g2]
    refine use_alike (r1.sub (sub_fresh hD)) (r2.sub (sub_fresh hD)) ?_
    simp only [evs_, dX]
    exact h
  | lst ds =>
    cases k with
    | zero => exact h1.elim
    | succ k =>
    obtain ⟨hl, ws1, e1, f1⟩ := h1
    obtain ⟨_, ws2, e2, f2⟩ := h2
    have l1 := fa_len f1
    have l2 := fa_len f2
    have fin : ∀ D, M D = none → ∀ p ∈ idxPs ds.length, ∀ us (R : Bool → Mh → Prop), (∃ i x1 x2, p = (.int (i : Nat), none) ∧ ws1[i]? = some x1 ∧ ws2[i]? = some x2 ∧ Rs k (mup M D (.lst us)) x1 ds[i]! ∧ Rs k (mup M D (.lst us)) x2 ds[i]!) := fun D hD p hp us R => by
      obtain ⟨i, hi, rfl⟩ := List.mem_map.mp hp
      have hi := List.mem_range.mp hi
      obtain ⟨x1, g1, r1⟩ := fa_get f1 (List.getElem?_eq_getElem hi)
      obtain ⟨x2, g2, r2⟩ := fa_get f2 (List.getElem?_eq_getElem hi)
      refine ⟨i, x1, x2, rfl, g1, g2, ?_, ?_⟩
      · rw [getElem!_pos ds i hi]; exact r1.sub (sub_fresh hD)
      · rw [getElem!_pos ds i hi]; exact r2.sub (sub_fresh hD)
    rcases e1 with rfl | ⟨a1, rfl, m1⟩ <;> rcases e2 with rfl | ⟨a2, rfl, m2⟩
    · simp only [evs_, c_l_alike_8, c_l_alike_9, c_l_alike_7, c_l_alike_6, c_l_alike_5, c_l_alike_10, c_l_alike_11, c_l_alike_12, c_l_alike_4, c_l_alike_3, c_l_alike_2, c_l_alike_1, c_l_alike, dLc, wipeW, f_l_alike, dn, Bool.or_false, Bool.or_true, Bool.true_or, Bool.false_or, l1, l2]
      refine ⟨by omega, by omega, by rw [rangeL_len]; exact szl hl, lc_of (idxPs ds.length) idxPs_fst (fun _ _ _ => trivial) (fun D hD p hp us => ?_) (by rw [idxPs_snd, eq_nilL]; exact q)⟩
      refine ⟨_, rfl, fun R h => ?_, fun y hy => by obtain ⟨i, x1, x2, rfl, _⟩ := fin D hD p hp us fun _ _ => True; cases hy⟩
      obtain ⟨i, x1, x2, rfl, g1, g2, r1, r2⟩ := fin D hD p hp us R
      simp only [evs_, atN g1, atN g2]
      refine use_alike r1 r2 ?_
      simp only [evs_, dX]
      exact h
    · simp only [evs_, c_l_alike_8, c_l_alike_9, c_l_alike_7, c_l_alike_6, c_l_alike_5, c_l_alike_10, c_l_alike_11, c_l_alike_12, c_l_alike_4, c_l_alike_3, c_l_alike_2, c_l_alike_1, c_l_alike, dLc, wipeW, f_l_alike, dn, Bool.or_false, Bool.or_true, Bool.true_or, Bool.false_or, l1, l2, ty_refl m2, len_ref m2]
      refine ⟨by omega, by omega, by rw [rangeL_len]; exact szl hl, lc_of (idxPs ds.length) idxPs_fst (fun _ _ _ => trivial) (fun D hD p hp us => ?_) (by rw [idxPs_snd, eq_nilL]; exact q)⟩
      refine ⟨_, rfl, fun R h => ?_, fun y hy => by obtain ⟨i, x1, x2, rfl, _⟩ := fin D hD p hp us fun _ _ => True; cases hy⟩
      obtain ⟨i, x1, x2, rfl, g1, g2, r1, r2⟩ := fin D hD p hp us R
      have m2' := sub_fresh (o := .lst us) hD a2 _ m2
      simp only [evs_, atN g1, atN g2, idx_ref m2']
      refine use_alike r1 r2 ?_
      simp only [evs_, dX]
      exact h
    · simp only [evs_, c_l_alike_8, c_l_alike_9, c_l_alike_7, c_l_alike_6, c_l_alike_5, c_l_alike_10, c_l_alike_11, c_l_alike_12, c_l_alike_4, c_l_alike_3, c_l_alike_2, c_l_alike_1, c_l_alike, dLc, wipeW, f_l_alike, dn, Bool.or_false, Bool.or_true, Bool.true_or, Bool.false_or, l1, l2, ty_refl m1, len_ref m1]
      refine ⟨by omega, by omega, by rw [rangeL_len]; exact szl hl, lc_of (idxPs ds.length) idxPs_fst (fun _ _ _ => trivial) (fun D hD p hp us => ?_) (by rw [idxPs_snd, eq_nilL]; exact q)⟩
      refine ⟨_, rfl, fun R h => ?_, fun y hy => by obtain ⟨i, x1, x2, rfl, _⟩ := fin D hD p hp us fun _ _ => True; cases hy⟩
      obtain ⟨i, x1, x2, rfl, g1, g2, r1, r2⟩ := fin D hD p hp us R
      have m1' := sub_fresh (o := .lst us) hD a1 _ m1
      simp only [evs_, atN g1, atN g2, idx_ref m1']
      refine use_alike r1 r2 ?_
      simp only [evs_, dX]
      exact h
    · simp only [evs_, c_l_alike_8, c_l_alike_9, c_l_alike_7, c_l_alike_6, c_l_alike_5, c_l_alike_10, c_l_alike_11, c_l_alike_12, c_l_alike_4, c_l_alike_3, c_l_alike_2, c_l_alike_1, c_l_alike, dLc, wipeW, f_l_alike, dn, Bool.or_false, Bool.or_true, Bool.true_or, Bool.false_or, l1, l2, ty_refl m1, len_ref m1, ty_refl m2, len_ref m2]
      refine ⟨by omega, by omega, by rw [rangeL_len]; exact szl hl, lc_of (idxPs ds.length) idxPs_fst (fun _ _ _ => trivial) (fun D hD p hp us => ?_) (by rw [idxPs_snd, eq_nilL]; exact q)⟩
      refine ⟨_, rfl, fun R h => ?_, fun y hy => by obtain ⟨i, x1, x2, rfl, _⟩ := fin D hD p hp us fun _ _ => True; cases hy⟩
      obtain ⟨i, x1, x2, rfl, g1, g2, r1, r2⟩ := fin D hD p hp us R
      have m1' := sub_fresh (o := .lst us) hD a1 _ m1
      have m2' := sub_fresh (o := .lst us) hD a2 _ m2
      simp only [evs_, atN g1, atN g2, idx_ref m1', idx_ref m2']
      refine use_alike r1 r2 ?_
      simp only [evs_, dX]
      exact h
  | _ => cases k <;> exact h1.elim
theorem Alk.mono : ∀ {n m : Nat} {w : W}, Alk n w → n ≤ m → Alk m w
  | n, m, .non, _, _ => by cases m <;> trivial
  | n, m, .bl _, _, _ => by cases m <;> trivial
  | n, m, .int _, _, _ => by cases m <;> trivial
  | n, m, .str _, _, _ => by cases m <;> trivial
  | n + 1, m + 1, .tup ws, h, l => ⟨h.1, fun w hw => Alk.mono (h.2 w hw) (by omega)⟩
  | n + 1, m + 1, .lst ws, h, l => ⟨h.1, fun w hw => Alk.mono (h.2 w hw) (by omega)⟩
  | n + 1, 0, _, _, l => by omega
  | 0, m, .tup ws, h, _ => h.elim
  | 0, m, .lst ws, h, _ => h.elim
  | 0, m, .ref _, h, _ => h.elim
  | 0, m, .scr _, h, _ => h.elim
  | 0, m, .dk _ _, h, _ => h.elim
  | 0, m, .dt _ _, h, _ => h.elim
  | 0, m, .obj _ _ _, h, _ => h.elim
  | n + 1, m + 1, .ref _, h, _ => h.elim
  | n + 1, m + 1, .scr _, h, _ => h.elim
  | n + 1, m + 1, .dk _ _, h, _ => h.elim
  | n + 1, m + 1, .dt _ _, h, _ => h.elim
  | n + 1, m + 1, .obj _ _ _, h, _ => h.elim
theorem Bd.alk (b : Bd) : Alk (b.ht + 1) b.enc := by
  have leaf : ∀ (n : Nat) (s : Str) , Alk n (.str s) := fun n s => by cases n <;> trivial
  have leafI : ∀ (n : Nat) (i : Int) , Alk n (.int i) := fun n i => by cases n <;> trivial
  induction b with
  | num n => exact ⟨by simp, by simp [leaf, leafI]⟩
  | arg => exact ⟨by simp, by simp [leaf, leafI]⟩
  | way f => exact ⟨by simp, by simp [leaf, leafI]⟩
  | plus a b ha hb => exact ⟨by simp, by simp only [List.mem_cons, List.not_mem_nil, or_false, forall_eq_or_imp, forall_eq]; exact ⟨leaf _ _, ha.mono (by simp only [Bd.ht]; omega), hb.mono (by simp only [Bd.ht]; omega)⟩⟩
  | less a b ha hb => exact ⟨by simp, by simp only [List.mem_cons, List.not_mem_nil, or_false, forall_eq_or_imp, forall_eq]; exact ⟨leaf _ _, ha.mono (by simp only [Bd.ht]; omega), hb.mono (by simp only [Bd.ht]; omega)⟩⟩
  | times a b ha hb => exact ⟨by simp, by simp only [List.mem_cons, List.not_mem_nil, or_false, forall_eq_or_imp, forall_eq]; exact ⟨leaf _ _, ha.mono (by simp only [Bd.ht]; omega), hb.mono (by simp only [Bd.ht]; omega)⟩⟩
  | iff a b c ha hb hc => exact ⟨by simp, by simp only [List.mem_cons, List.not_mem_nil, or_false, forall_eq_or_imp, forall_eq]; exact ⟨leaf _ _, ha.mono (by simp only [Bd.ht]; omega), hb.mono (by simp only [Bd.ht]; omega), hc.mono (by simp only [Bd.ht]; omega)⟩⟩
  | thn a b ha hb => exact ⟨by simp, by simp only [List.mem_cons, List.not_mem_nil, or_false, forall_eq_or_imp, forall_eq]; exact ⟨leaf _ _, ha.mono (by simp only [Bd.ht]; omega), hb.mono (by simp only [Bd.ht]; omega)⟩⟩
  | say a ha => exact ⟨by simp, by simp only [List.mem_cons, List.not_mem_nil, or_false, forall_eq_or_imp, forall_eq]; exact ⟨leaf _ _, ha.mono (by simp only [Bd.ht]; omega)⟩⟩
  | call f a ha => exact ⟨by simp, by simp only [List.mem_cons, List.not_mem_nil, or_false, forall_eq_or_imp, forall_eq]; exact ⟨leaf _ _, leafI _ _, ha.mono (by simp only [Bd.ht]; omega)⟩⟩
  | thr a b ha hb => exact ⟨by simp, by simp only [List.mem_cons, List.not_mem_nil, or_false, forall_eq_or_imp, forall_eq]; exact ⟨leaf _ _, ha.mono (by simp only [Bd.ht]; omega), hb.mono (by simp only [Bd.ht]; omega)⟩⟩
theorem prog_alk {p : List (Nat × Bd)} (ok : PrOk p) : Alk 9 (encP p) := by
  have h8 := ok.l8
  refine ⟨by rw [List.length_map]; omega, fun w hw => ?_⟩
  obtain ⟨f, hf, rfl⟩ := List.mem_map.mp hw
  have := (ok.ok f hf).ht
  refine ⟨by simp, ?_⟩
  simp only [List.mem_cons, List.not_mem_nil, or_false, forall_eq_or_imp, forall_eq]
  exact ⟨trivial, f.2.alk.mono (by omega)⟩
theorem Fr0.hs {a s : Addr} {M M' : Mh} (h : Fr0 M M') (hs : Hs a s M) : Hs a s M' := by
  obtain ⟨⟨x, t, cells, h1, h2, h3⟩, ne⟩ := hs
  exact ⟨⟨x, t, cells, h a _ h1, h s _ h2, h3⟩, ne⟩
end WL
namespace WL
structure Tr where
  parts : List (List Nat)
  stands : List Int
def Tr.st (t : Tr) (i : Nat) : Int := t.stands.getD i (-1)
def Tr.up (t : Tr) : Nat → Nat → List Nat
  | 0, _ => []
  | f + 1, i => i :: (if 0 ≤ t.st i then t.up f (t.st i).toNat else [])
def Tr.ups (t : Tr) (i : Nat) : List Nat := t.up t.parts.length i
def Tr.down (t : Tr) (i : Nat) : List Nat := (t.ups i).reverse
structure Tr.Ok (m : Nat) (t : Tr) : Prop where
  len : t.stands.length = t.parts.length
  lo : ∀ s ∈ t.stands, -1 ≤ s ∧ s < (t.parts.length : Int)
  ne : ∀ q ∈ t.parts, q ≠ []
  inc : ∀ q ∈ t.parts, q.Pairwise (· < ·)
  all : ∀ f, f < m ↔ ∃ q ∈ t.parts, f ∈ q
  one : t.parts.flatten.Nodup
  fst : (t.parts.map fun q => q.headD 0).Pairwise (· < ·)
  rk : ∃ r : Nat → Nat, (∀ i, i < t.parts.length → r i < t.parts.length) ∧ ∀ i, i < t.parts.length → 0 ≤ t.st i → r (t.st i).toNat < r i
theorem Tr.Ok.st_lt {m : Nat} {t : Tr} (ok : t.Ok m) {i : Nat} (h : 0 ≤ t.st i) : (t.st i).toNat < t.parts.length := by
  unfold Tr.st at *
  by_cases hi : i < t.stands.length
  · have := ok.lo (t.stands[i]) (List.getElem_mem hi)
    rw [List.getD_eq_getElem?_getD, List.getElem?_eq_getElem hi, Option.getD_some] at h ⊢
    omega
  · rw [List.getD_eq_getElem?_getD, List.getElem?_eq_none (by omega), Option.getD_none] at h
    omega
theorem Tr.Ok.st_ge {m : Nat} {t : Tr} (ok : t.Ok m) (i : Nat) : -1 ≤ t.st i := by
  unfold Tr.st
  by_cases hi : i < t.stands.length
  · have := ok.lo (t.stands[i]) (List.getElem_mem hi)
    rw [List.getD_eq_getElem?_getD, List.getElem?_eq_getElem hi, Option.getD_some]
    omega
  · rw [List.getD_eq_getElem?_getD, List.getElem?_eq_none (by omega), Option.getD_none]
    omega
theorem Tr.up_stable {t : Tr} {r : Nat → Nat} (h : ∀ i, i < t.parts.length → 0 ≤ t.st i → r (t.st i).toNat < r i ∧ (t.st i).toNat < t.parts.length) : ∀ (f g i : Nat), i < t.parts.length → r i < f → r i < g → t.up f i = t.up g i
  | 0, _, _, _, h1, _ => by omega
  | _ + 1, 0, _, _, _, h2 => by omega
  | f + 1, g + 1, i, hi, h1, h2 => by
    unfold Tr.up
    by_cases hs : 0 ≤ t.st i
    · rw [if_pos hs, if_pos hs, Tr.up_stable h f g _ (h i hi hs).2 (by have := (h i hi hs).1; omega) (by have := (h i hi hs).1; omega)]
    · rw [if_neg hs, if_neg hs]
theorem Tr.Ok.ups {m : Nat} {t : Tr} (ok : t.Ok m) {i : Nat} (hi : i < t.parts.length) : t.ups i = i :: (if 0 ≤ t.st i then t.ups (t.st i).toNat else []) := by
  obtain ⟨r, h1, h2⟩ := ok.rk
  have h : ∀ i, i < t.parts.length → 0 ≤ t.st i → r (t.st i).toNat < r i ∧ (t.st i).toNat < t.parts.length := fun i hi hs => ⟨h2 i hi hs, ok.st_lt hs⟩
  have e : t.ups i = t.up (t.parts.length + 1) i := Tr.up_stable h _ _ i hi (h1 i hi) (by have := h1 i hi; omega)
  rw [e]
  rfl
theorem Tr.Ok.ind {m : Nat} {t : Tr} (ok : t.Ok m) {P : Nat → Prop} (h : ∀ i, i < t.parts.length → (0 ≤ t.st i → P (t.st i).toNat) → P i) : ∀ i, i < t.parts.length → P i := by
  obtain ⟨r, h1, h2⟩ := ok.rk
  have key : ∀ k i, i < t.parts.length → r i < k → P i := by
    intro k
    induction k with
    | zero => intro i _ h; omega
    | succ k ih =>
      intro i hi hk
      exact h i hi fun hs => ih _ (ok.st_lt hs) (by have := h2 i hi hs; omega)
  exact fun i hi => key _ i hi (Nat.lt_succ_self _)
theorem Tr.Ok.ups_lt {m : Nat} {t : Tr} (ok : t.Ok m) : ∀ i, i < t.parts.length → ∀ j ∈ t.ups i, j < t.parts.length := by
  refine ok.ind fun i hi ih j hj => ?_
  rw [ok.ups hi] at hj
  rcases List.mem_cons.mp hj with rfl | hj
  · exact hi
  · by_cases hs : 0 ≤ t.st i
    · rw [if_pos hs] at hj; exact ih hs j hj
    · rw [if_neg hs] at hj; simp at hj
theorem Tr.Ok.self_up {m : Nat} {t : Tr} (ok : t.Ok m) {i : Nat} (hi : i < t.parts.length) (hs : 0 ≤ t.st i) : i ∉ t.ups (t.st i).toNat := by
  obtain ⟨r, h1, h2⟩ := ok.rk
  have key : ∀ i, i < t.parts.length → ∀ l ∈ t.ups i, r l ≤ r i := by
    refine ok.ind fun i hi ih l hl => ?_
    rw [ok.ups hi] at hl
    rcases List.mem_cons.mp hl with rfl | hl
    · exact Nat.le_refl _
    · by_cases hs : 0 ≤ t.st i
      · rw [if_pos hs] at hl
        have := ih hs l hl
        have := h2 i hi hs
        omega
      · rw [if_neg hs] at hl; simp at hl
  intro z
  have := key _ (ok.st_lt hs) i z
  have := h2 i hi hs
  omega
theorem Tr.up_len (t : Tr) : ∀ f i, (t.up f i).length ≤ f
  | 0, _ => by simp [Tr.up]
  | f + 1, i => by
    unfold Tr.up
    split
    · rw [List.length_cons]; have := t.up_len f (t.st i).toNat; omega
    · simp
theorem Tr.ups_len (t : Tr) (i : Nat) : (t.ups i).length ≤ t.parts.length := t.up_len _ i
theorem Tr.Ok.ups_ne {m : Nat} {t : Tr} (ok : t.Ok m) {i : Nat} (hi : i < t.parts.length) : t.ups i ≠ [] := by rw [ok.ups hi]; simp
theorem nodup_len : ∀ (m : Nat) {l : List Nat}, l.Nodup → (∀ x ∈ l, x < m) → l.length ≤ m
  | 0, l, _, h => by
    cases l with
    | nil => simp
    | cons x l => exact absurd (h x (by simp)) (by omega)
  | m + 1, l, nd, h => by
    by_cases hm : m ∈ l
    · have h1 := nodup_len m (l := l.erase m) (nd.erase m) fun x hx => by
        have h2 := (nd.mem_erase_iff).mp hx
        have := h x h2.2
        omega
      rw [List.length_erase_of_mem hm] at h1
      omega
    · have := nodup_len m nd fun x hx => by
        have := h x hx
        have : x ≠ m := fun z => hm (z ▸ hx)
        omega
      omega
theorem Tr.Ok.len_le {m : Nat} {t : Tr} (ok : t.Ok m) : t.parts.length ≤ m := by
  have h1 : t.parts.length ≤ t.parts.flatten.length := by
    have ne := ok.ne
    generalize t.parts = l at ne
    clear ok
    induction l with
    | nil => simp
    | cons q l ih =>
      have hq := ne q (by simp)
      have := ih fun x hx => ne x (List.mem_cons_of_mem _ hx)
      have : q.length ≠ 0 := fun z => hq (List.length_eq_zero_iff.mp z)
      rw [List.flatten_cons, List.length_append, List.length_cons]
      omega
  have h2 : t.parts.flatten.length ≤ m := nodup_len m ok.one fun f hf => by
    obtain ⟨q, hq, hf⟩ := List.mem_flatten.mp hf
    exact (ok.all f).mpr ⟨q, hq, hf⟩
  omega
theorem Tr.Ok.pos {m : Nat} {t : Tr} (ok : t.Ok m) (hm : 0 < m) : 0 < t.parts.length := by
  obtain ⟨q, hq, _⟩ := (ok.all 0).mp hm
  cases h : t.parts with
  | nil => rw [h] at hq; simp at hq
  | cons _ _ => simp
def Tr.pof (t : Tr) (f : Nat) : Nat := t.parts.findIdx fun q => q.contains f
theorem Tr.Ok.pof {m : Nat} {t : Tr} (ok : t.Ok m) {f : Nat} (hf : f < m) : ∃ q, t.parts[t.pof f]? = some q ∧ f ∈ q := by
  obtain ⟨q, hq, hfq⟩ := (ok.all f).mp hf
  have h : t.pof f < t.parts.length := List.findIdx_lt_length_of_exists ⟨q, hq, by simpa using hfq⟩
  refine ⟨t.parts[t.pof f], List.getElem?_eq_getElem h, ?_⟩
  have h2 := List.findIdx_getElem (w := h) (p := fun q : List Nat => q.contains f)
  exact List.contains_iff_mem.mp h2
theorem Tr.Ok.pof_lt {m : Nat} {t : Tr} (ok : t.Ok m) {f : Nat} (hf : f < m) : t.pof f < t.parts.length := by
  obtain ⟨q, h, _⟩ := ok.pof hf
  exact (List.getElem?_eq_some_iff.mp h).1
theorem nodup_flatten_get {l : List (List Nat)} (h : l.flatten.Nodup) : ∀ {i j : Nat} {q q' : List Nat} {f : Nat}, l[i]? = some q → l[j]? = some q' → f ∈ q → f ∈ q' → i = j := by
  induction l with
  | nil => intro i j q q' f h1; simp at h1
  | cons x l ih =>
    intro i j q q' f h1 h2 f1 f2
    rw [List.flatten_cons, List.nodup_append] at h
    obtain ⟨_, h4, h5⟩ := h
    cases i with
    | zero =>
      cases j with
      | zero => rfl
      | succ j =>
        simp at h1 h2
        subst h1
        exact absurd rfl (h5 f f1 f (List.mem_flatten.mpr ⟨q', List.mem_of_getElem? h2, f2⟩))
    | succ i =>
      cases j with
      | zero =>
        simp at h1 h2
        subst h2
        exact absurd rfl (h5 f f2 f (List.mem_flatten.mpr ⟨q, List.mem_of_getElem? h1, f1⟩))
      | succ j =>
        simp at h1 h2
        rw [ih h4 h1 h2 f1 f2]
theorem Tr.Ok.pof_eq {m : Nat} {t : Tr} (ok : t.Ok m) {f i : Nat} {q : List Nat} (h : t.parts[i]? = some q) (hf : f ∈ q) : t.pof f = i := by
  have hm : f < m := (ok.all f).mpr ⟨q, List.mem_of_getElem? h, hf⟩
  obtain ⟨q', h', hf'⟩ := ok.pof hm
  exact nodup_flatten_get ok.one h' h hf' hf
theorem Tr.Ok.nodup {m : Nat} {t : Tr} (ok : t.Ok m) {q : List Nat} (h : q ∈ t.parts) : q.Nodup := (ok.inc q h).imp fun h => Nat.ne_of_lt h
abbrev Szs := List Nat
def sizeOf' (z : Szs) (f : Nat) : Nat := z.getD f 0
def Tr.part (t : Tr) (i : Nat) : List Nat := t.parts.getD i []
def Tr.psz (t : Tr) (z : Szs) (i : Nat) : Nat := ((t.part i).map (sizeOf' z)).sum
def Tr.fin (t : Tr) (z : Szs) (i : Nat) : Nat := ((t.ups i).map (t.psz z)).sum
def Tr.beg (t : Tr) (z : Szs) (i : Nat) : Nat := ((t.ups i).tail.map (t.psz z)).sum
theorem Tr.Ok.beg {m : Nat} {t : Tr} (ok : t.Ok m) (z : Szs) {i : Nat} (hi : i < t.parts.length) : t.beg z i = if 0 ≤ t.st i then t.fin z (t.st i).toNat else 0 := by
  unfold Tr.beg Tr.fin
  rw [ok.ups hi, List.tail_cons]
  split <;> rfl
theorem Tr.Ok.fin {m : Nat} {t : Tr} (ok : t.Ok m) (z : Szs) {i : Nat} (hi : i < t.parts.length) : t.fin z i = t.beg z i + t.psz z i := by
  unfold Tr.beg Tr.fin
  rw [ok.ups hi, List.tail_cons, List.map_cons, List.sum_cons]
  omega
def Tr.cell (t : Tr) (z : Szs) (f : Nat) : Nat := t.beg z (t.pof f) + (((t.part (t.pof f)).takeWhile (· != f)).map (sizeOf' z)).sum
def Tr.want (t : Tr) (z : Szs) : Nat := ((List.range t.parts.length).map (t.fin z)).foldr max 0
theorem le_foldr_max {l : List Nat} {x : Nat} (h : x ∈ l) : x ≤ l.foldr max 0 := by
  induction l with
  | nil => simp at h
  | cons y l ih =>
    rw [List.foldr_cons]
    rcases List.mem_cons.mp h with rfl | h
    · omega
    · have := ih h; omega
theorem foldr_max_mem {l : List Nat} (h : l ≠ []) : l.foldr max 0 ∈ l := by
  induction l with
  | nil => exact absurd rfl h
  | cons y l ih =>
    rw [List.foldr_cons]
    by_cases hl : l = []
    · subst hl; simp
    · have := ih hl
      by_cases hy : l.foldr max 0 ≤ y
      · rw [Nat.max_eq_left hy]; simp
      · rw [Nat.max_eq_right (by omega)]; exact List.mem_cons_of_mem _ this
theorem max_is {l : List Nat} {x : Nat} (h : x ∈ l) (hx : ∀ y ∈ l, y ≤ x) : x = l.foldr max 0 := by
  have h1 := le_foldr_max h
  have h2 := hx _ (foldr_max_mem (List.ne_nil_of_mem h))
  omega
theorem Tr.fin_le {t : Tr} {z : Szs} {i : Nat} (hi : i < t.parts.length) : t.fin z i ≤ t.want z := le_foldr_max (List.mem_map_of_mem (List.mem_range.mpr hi))
end WL
namespace WL
open PySem L2
local macro_rules | `(tactic| simp only [evs_, $xs,*]) => `(tactic| simp only [dX, dXs, dXo, dXi, dSc, d2, d1, dN, dVar, dC, dTup, dLst, dTru, dB, dChain, dIte, dNotV, dNotT, dJoinV, dJoinT, dNil, dCons, dCall, dBM, dIsi, dIsi2, dAttr, dMeth, dNew, dDget, dDin, dDnew, dKidx, dKin, dKget, dDisp, dFrz, dRev, dLrg, dSset, dSlice, dNoPart, dPart, dDfz, dRaise, dTry, dCatch, dKind, isx_eq, xfl_eq, dIsc, Gam.low, dAsg, dExpr, dRet, dIf, dFld, dSet, dDput, dNever, dFor, dNext, binP, cmpP, iSeqD, iRg1, iRg2, iZip, iEnumD, Tg.asg, setAll, List.set, List.map_cons, List.map_nil, subW, modW, fdivW, powW, ltW, leW, gtW, geW, newL, finD, frzO, tupW, listW, oneW, twoW, BI.w, ints_eq, add_int, add_str, add_tup, add_lst, mul_int, mul_lst, mul_tup, idx_tup, idx_lst, idx_scr, idx_str, len_tup, len_lst, len_scr, len_str, sl_tup, sl_lst, neg_int, str_int, str_str, int_int, int_bl, is_non, is_int, is_str, is_tup, is_lst, is_bl, is_bb, dss_cons, eq_int, eq_str, eq_bl, ne_int, ne_str, ne_bl, eq_nilL, ty_non, ty_bl, ty_int, ty_str, ty_tup, ty_lst, ty_scr, ty_dk, Ty.sub, tr_bl, tr_non, tr_int, tr_str, sv_lst, sv_tup, sv_scr, lv_lst, at0, at1, at2, cut1, len0, ss_nil, for_nil, for_cons, pairs_cons, pairs_nil, pairs_nil', walk_lst, walk_scr, walk_tup, walk_str, walk_ref, List.getElem?_cons_zero, List.getElem?_cons_succ, List.length_cons, List.length_nil, List.append_nil, List.cons_append, List.nil_append, Option.some.injEq, W.int.injEq, W.str.injEq, W.bl.injEq, W.tup.injEq, W.lst.injEq, W.ref.injEq, List.cons.injEq, Option.map_some, exists_and_left, exists_and_right, exists_eq_left, exists_eq_left', exists_eq, exists_eq', exists_eq_right, exists_eq_right', and_true, true_and, and_assoc, reduceIte, reduceCtorEq, decide_true, decide_false, decide_eq_true_eq, decide_eq_false_iff_not, Bool.not_eq_true', Bool.not_eq_false', Bool.true_eq_false, Bool.false_eq_true, if_true, if_false, Bool.not_true, Bool.not_false, ite_true, ite_false, Int.cast_ofNat_Int, Int.reduceAdd, Int.reduceSub, Int.reduceEq, Int.reduceLT, Int.reduceLE, Int.natCast_add, Nat.reduceEqDiff, Nat.reduceAdd, Nat.add_zero, Nat.zero_add, Nat.succ_ne_zero, not_true_eq_false, not_false_eq_true, Option.getD_some, Option.getD_none, Option.isSome_some, Option.isSome_none, $xs,*])
def c_are_parts_6 : Ss := .cons (.ret (.lit (.bl false))) .nil
def c_are_parts_5 : Ss := .cons (.expr (.bm true .extend (.var 2) (.cons (.var 3) .nil))) .nil
def c_are_parts_4 : Ss := .cons (.ite (.bool false (.cons (.not (.isi .tup (.var 3))) (.cons (.cmp .Eq (.var 3) (.tup .nil)) (.cons (.cmp .NotEq (.blt false .list (.cons (.var 3) .nil)) (.sset false (.var 3))) .nil)))) c_are_parts_6 .nil) c_are_parts_5
def c_are_parts_3 : Ss := .cons (.ret (.bool true (.cons (.cmp .Eq (.blt false .sorted (.cons (.var 2) .nil)) (.lrg false (.var 1))) (.cons (.cmp .Eq (.var 4) (.blt false .sorted (.cons (.var 4) .nil))) .nil)))) .nil
def c_are_parts_2 : Ss := .cons (.asg (.name 4) (.lc false (.idx (.var 3) (.lit (.int 0))) (.name 3) (.seq (.var 0)) .none [("part", 3)])) c_are_parts_3
def c_are_parts_1 : Ss := .cons (.for_ (.name 3) (.seq (.var 0)) c_are_parts_4) c_are_parts_2
def c_are_parts : Ss := .cons (.asg (.name 2) (.lst true .nil)) c_are_parts_1
def n_are_parts : List Str := ["parts", "many", "found", "part", "firsts"]
def c_are_numbers_3 : Ss := .cons (.ret (.lit (.bl false))) .nil
def c_are_numbers_2 : Ss := .cons (.ite (.bool false (.cons (.not (.isi .tup (.var 1))) (.cons (.cmp .NotEq (.lc false (.var 2) (.name 2) (.seq (.var 1)) (.some (.not (.call 0 (.cons (.var 2) (.cons (.lit (.int 0)) (.cons (.lit (.int 99)) .nil)))))) [("one", 2)]) (.lst false .nil)) .nil))) c_are_numbers_3 .nil) .nil
def c_are_numbers_1 : Ss := .cons (.ret (.lit (.bl true))) .nil
def c_are_numbers : Ss := .cons (.for_ (.name 1) (.seq (.var 0)) c_are_numbers_2) c_are_numbers_1
def n_are_numbers : List Str := ["parts", "part", "one"]
def c_is_without_rings_5 : Ss := .cons (.asg (.name 2) (.ite (.cmp .GtE (.var 2) (.lit (.int 0))) (.idx (.var 0) (.var 2)) (.var 2))) .nil
def c_is_without_rings_6 : Ss := .cons (.ret (.lit (.bl false))) .nil
def c_is_without_rings_4 : Ss := .cons (.ite (.cmp .GtE (.var 2) (.lit (.int 0))) c_is_without_rings_6 .nil) .nil
def c_is_without_rings_3 : Ss := .cons (.for_ (.name 3) (.rg1 (.bin .Add false (.blt false .len (.cons (.var 0) .nil)) (.lit (.int 1)))) c_is_without_rings_5) c_is_without_rings_4
def c_is_without_rings_2 : Ss := .cons (.asg (.name 2) (.var 1)) c_is_without_rings_3
def c_is_without_rings_1 : Ss := .cons (.ret (.lit (.bl true))) .nil
def c_is_without_rings : Ss := .cons (.for_ (.name 1) (.rg1 (.blt false .len (.cons (.var 0) .nil))) c_is_without_rings_2) c_is_without_rings_1
def n_is_without_rings : List Str := ["stands", "part", "here", "step"]
def c_is_tree_6 : Ss := .cons (.ret (.lit (.bl false))) .nil
def c_is_tree_7 : Ss := .cons (.ret (.lit (.bl false))) .nil
def c_is_tree_8 : Ss := .cons (.ret (.lit (.bl false))) .nil
def c_is_tree_9 : Ss := .cons (.ret (.lit (.bl false))) .nil
def c_is_tree_5 : Ss := .cons (.ret (.call 16 (.cons (.var 3) .nil))) .nil
def c_is_tree_4 : Ss := .cons (.ite (.cmp .NotEq (.lc false (.var 4) (.name 4) (.seq (.var 3)) (.some (.not (.call 0 (.cons (.var 4) (.cons (.neg (.lit (.int 1))) (.cons (.bin .Sub false (.blt false .len (.cons (.var 2) .nil)) (.lit (.int 1))) .nil)))))) [("one", 4)]) (.lst false .nil)) c_is_tree_9 .nil) c_is_tree_5
def c_is_tree_3 : Ss := .cons (.ite (.bool false (.cons (.not (.call 15 (.cons (.var 2) .nil))) (.cons (.not (.call 14 (.cons (.var 2) (.cons (.blt false .len (.cons (.var 0) .nil)) .nil)))) (.cons (.cmp .NotEq (.blt false .len (.cons (.var 3) .nil)) (.blt false .len (.cons (.var 2) .nil))) .nil)))) c_is_tree_8 .nil) c_is_tree_4
def c_is_tree_2 : Ss := .cons (.ite (.bool false (.cons (.not (.isi .tup (.var 2))) (.cons (.not (.isi .tup (.var 3))) .nil))) c_is_tree_7 .nil) c_is_tree_3
def c_is_tree_1 : Ss := .cons (.asg (.tup [2, 3]) (.var 1)) c_is_tree_2
def c_is_tree : Ss := .cons (.ite (.bool false (.cons (.not (.isi .tup (.var 1))) (.cons (.cmp .NotEq (.blt false .len (.cons (.var 1) .nil)) (.lit (.int 2))) .nil))) c_is_tree_6 .nil) c_is_tree_1
def n_is_tree : List Str := ["program", "tree", "parts", "stands", "one"]
def c_need_tree_2 : Ss := .cons (.raise 3) .nil
def c_need_tree_1 : Ss := .cons (.ite (.not (.call 17 (.cons (.var 0) (.cons (.var 1) .nil)))) c_need_tree_2 .nil) .nil
def c_need_tree : Ss := .cons (.expr (.call 3 (.cons (.var 0) .nil))) c_need_tree_1
def n_need_tree : List Str := ["program", "tree"]
def c_need_function_1 : Ss := .cons (.raise 5) .nil
def c_need_function : Ss := .cons (.ite (.not (.call 0 (.cons (.var 1) (.cons (.lit (.int 0)) (.cons (.bin .Sub false (.blt false .len (.cons (.var 0) .nil)) (.lit (.int 1))) .nil))))) c_need_function_1 .nil) .nil
def n_need_function : List Str := ["program", "function"]
theorem srt_eq : ∀ {a b : List Int}, a.Pairwise (· < ·) → b.Pairwise (· < ·) → (∀ k, k ∈ a ↔ k ∈ b) → a = b
  | [], [], _, _, _ => rfl
  | [], y :: _, _, _, h => absurd ((h y).mpr (by simp)) (by simp)
  | x :: _, [], _, _, h => absurd ((h x).mp (by simp)) (by simp)
  | x :: a, y :: b, ha, hb, h => by
    rw [List.pairwise_cons] at ha hb
    have e : x = y := by
      have h1 := (h x).mp (by simp)
      have h2 := (h y).mpr (by simp)
      rcases List.mem_cons.mp h1 with z | z
      · exact z
      · rcases List.mem_cons.mp h2 with z2 | z2
        · exact z2.symm
        · have := ha.1 y z2
          have := hb.1 x z
          omega
    subst e
    rw [srt_eq ha.2 hb.2 fun k => ?_]
    constructor
    · intro z
      rcases List.mem_cons.mp ((h k).mp (List.mem_cons_of_mem _ z)) with z2 | z2
      · subst z2; exact absurd (ha.1 k z) (by omega)
      · exact z2
    · intro z
      rcases List.mem_cons.mp ((h k).mpr (List.mem_cons_of_mem _ z)) with z2 | z2
      · subst z2; exact absurd (hb.1 k z) (by omega)
      · exact z2
theorem srt_lt {l : List Int} (h : l.Pairwise (· ≤ ·)) (nd : l.Nodup) : l.Pairwise (· < ·) := by
  have := h.and nd
  exact this.imp fun ⟨h1, h2⟩ => by omega
theorem srt_perm {a b : List Int} (p : a.Perm b) (ha : a.Pairwise (· ≤ ·)) (hb : b.Pairwise (· < ·)) : a = b :=
  srt_eq (srt_lt ha (p.nodup_iff.mpr (hb.imp fun h => by omega))) hb fun k => p.mem_iff
def natI (q : List Nat) : List Int := q.map fun f : Nat => (f : Int)
def wInts (q : List Nat) : List W := q.map fun f : Nat => W.int f
theorem wInts_eq (q : List Nat) : wInts q = (natI q).map W.int := by unfold wInts natI; rw [List.map_map]; rfl
theorem natI_lt {q : List Nat} (h : q.Pairwise (· < ·)) : (natI q).Pairwise (· < ·) := by
  unfold natI
  rw [List.pairwise_map]
  exact h.imp fun h => by omega
theorem mem_ints {q : List Nat} {f : Nat} : (f : Int) ∈ natI q ↔ f ∈ q := by
  unfold natI
  rw [List.mem_map]
  constructor
  · rintro ⟨g, hg, e⟩
    have : g = f := by omega
    exact this ▸ hg
  · exact fun h => ⟨f, h, rfl⟩
theorem mem_ints' {q : List Nat} {k : Int} : k ∈ natI q ↔ ∃ f : Nat, k = f ∧ f ∈ q := by
  unfold natI
  rw [List.mem_map]
  constructor
  · rintro ⟨g, hg, e⟩; exact ⟨g, e.symm, hg⟩
  · rintro ⟨g, e, hg⟩; exact ⟨g, hg, e.symm⟩
theorem pl_wints {n : Nat} {ns : List Int} : PlW (n + 1) (.lst (ns.map W.int)) := pl_lst fun w hw => by
  obtain ⟨i, _, rfl⟩ := List.mem_map.mp hw
  exact pl_int
theorem ne_same {M : Mh} {Q : QW} {ns : List Int} : neV_ (.lst (ns.map W.int)) (.lst (ns.map W.int)) M Q = Q (.bl false) M := by
  rw [ne_lst pl_wints pl_wints, eqB_refl (n := 64) pl_wints]; rfl
theorem eq_same {M : Mh} {Q : QW} {ns : List Int} : eqV_ (.lst (ns.map W.int)) (.lst (ns.map W.int)) M Q = Q (.bl true) M := by
  rw [eq_lst pl_wints pl_wints, eqB_refl (n := 64) pl_wints]
theorem rangeL_natI (m : Nat) : rangeL 0 (m : Int) = (natI (List.range m)).map W.int := by
  unfold rangeL natI
  rw [List.map_map]
  have : ((m : Int) - 0).toNat = m := by omega
  rw [this]
  refine List.map_congr_left fun i _ => ?_
  show W.int (0 + (i : Int)) = W.int i
  rw [Int.zero_add]
theorem int_neZ {i : Int} : True := trivial
def encPs (ps : List (List Nat)) : List W := ps.map fun q => W.tup (wInts q)
def encT (t : Tr) : W := .tup [.tup (encPs t.parts), .tup (t.stands.map W.int)]
theorem sub_mup {M : Mh} {a : Addr} {o : MO} (h : M a = none) : Sub M (mup M a o) := fun b u hb => by
  rw [mup_off (fun z => by rw [z, h] at hb; cases hb)]; exact hb
theorem fg_mup {M : Mh} {a : Addr} {o : MO} {Q : QW} {w : W} (h : M a = none) (q : Q w M) : fgQ Q w (mup M a o) := ⟨M, sub_mup h, q⟩
theorem flatten_take {α : Type} : ∀ (l : List (List α)) (i : Nat), (l.take i).flatten.Sublist l.flatten
  | _, 0 => by simp
  | [], _ + 1 => by simp
  | q :: l, i + 1 => by
    rw [List.take_succ_cons, List.flatten_cons, List.flatten_cons]
    exact (List.Sublist.refl q).append (flatten_take l i)
theorem ext_mupT {M : Mh} {a : Addr} {ws us : List W} {Q : QW} : extendW (.ref a) [.tup us] (mup M a (.lst ws)) Q = (ws.length + us.length ≤ sizeLine ∧ Q .non (mup M a (.lst (ws ++ us)))) := by
  show (∃ ws' us', mup M a (.lst ws) a = some (.lst ws') ∧ xv _ (.tup us) = some us' ∧ ws'.length + us'.length ≤ sizeLine ∧ Q .non (mup (mup M a (.lst ws)) a (.lst (ws' ++ us')))) = _
  simp [mup_at, xv_tup, mup_mup]
theorem wInts_app {a b : List Nat} : wInts a ++ wInts b = wInts (a ++ b) := by unfold wInts; rw [List.map_append]
theorem wInts_len {a : List Nat} : (wInts a).length = a.length := by unfold wInts; rw [List.length_map]
def sp_are_parts : Nat → Wp := fun _ ws M Q _ => ∃ (t : Tr) (m : Nat), ws = [.tup (encPs t.parts), .int m] ∧ t.Ok m ∧ m ≤ 8 ∧ Q (.bl true) M
theorem keep_are_parts {Γ : Gam} {k : Nat} : KeepG Γ n_are_parts 2 c_are_parts (sp_are_parts k) := by
  rintro ws M Q Ex ⟨t, m, rfl, ok, hm, q⟩
  refine ⟨rfl, ?_⟩
  show dSs Γ _ _ [some (.tup (encPs t.parts)), some (.int m), none, none, none] M
  simp only [evs_, c_are_parts, c_are_parts_1]
  intro L hL
  refine for_inv (fun i σ M' => (∃ x y, σ = [some (.tup (encPs t.parts)), some (.int m), some (.ref L), x, y]) ∧ M' = mup M L (.lst (wInts (t.parts.take i).flatten))) (fun _ _ _ _ => trivial) _ 0 ⟨⟨_, _, rfl⟩, rfl⟩ (fun i x σ M' K e h hK => ?_) (fun σ M' h => ?_)
  · obtain ⟨⟨x2, y2, rfl⟩, rfl⟩ := h
    rw [Nat.zero_add] at hK ⊢
    unfold encPs at e
    rw [List.getElem?_map] at e
    cases hq : t.parts[i]? with
    | none => rw [hq] at e; cases e
    | some q =>
    rw [hq] at e
    cases e
    have hmem := List.mem_of_getElem? hq
    have inc := ok.inc q hmem
    have pl : PlW 64 (.tup (wInts q)) := pl_tup (n := 63) fun w hw => by
      rw [wInts_eq] at hw
      obtain ⟨i, _, rfl⟩ := List.mem_map.mp hw
      exact pl_int
    have hql : q.length ≤ 8 := Nat.le_trans (nodup_len m (inc.imp fun h => by omega) fun x hx => (ok.all x).mpr ⟨q, hmem, hx⟩) hm
    have hfl : (t.parts.take i).flatten.length ≤ 8 := Nat.le_trans (nodup_len m (ok.one.sublist (flatten_take _ i)) fun x hx => by
      obtain ⟨q', h1, h2⟩ := List.mem_flatten.mp hx
      exact (ok.all x).mpr ⟨q', List.mem_of_mem_take h1, h2⟩) hm
    have hne : ¬ wInts q = [] := by
      intro z
      exact ok.ne q hmem (by simpa [wInts] using z)
    simp only [evs_, c_are_parts_6, c_are_parts_5, c_are_parts_4, c_are_parts_3, c_are_parts_2, c_are_parts_1, c_are_parts, eq_tup0 pl, hne]
    refine ⟨natI q, wInts_eq q, by unfold natI; rw [List.length_map]; omega, fun out h1 h2 => ?_⟩
    rw [srt_eq h1 (natI_lt inc) h2, wInts_eq q, ne_same]
    simp only [evs_, BM.recv, BM.w, recv_mup, cls_ext, ext_mupT]
    rw [← wInts_eq, wInts_app]
    refine ⟨⟨_, mup_at⟩, szl (by rw [wInts_len, wInts_len]; omega), hK _ _ ⟨⟨_, _, rfl⟩, ?_⟩⟩
    rw [List.take_succ, hq]
    simp
  · obtain ⟨⟨x2, y2, rfl⟩, rfl⟩ := h
    have hl : (encPs t.parts).length = t.parts.length := by unfold encPs; rw [List.length_map]
    have hpl : t.parts.length ≤ 8 := Nat.le_trans ok.len_le hm
    rw [Nat.zero_add, hl, List.take_length]
    simp only [evs_, c_are_parts_6, c_are_parts_5, c_are_parts_4, c_are_parts_3, c_are_parts_2, c_are_parts_1, c_are_parts, dLc, wipeW]
    have hps : encPs t.parts = (t.parts.map fun q => (W.tup (wInts q), some (W.int (q.headD 0 : Nat)))).map (·.1) := by
      unfold encPs; rw [List.map_map]; rfl
    refine ⟨by rw [hl]; exact szl (by omega), lc_of _ hps (fun _ _ _ => trivial) (fun D hD pr hp us => ?_) ?_⟩
    · obtain ⟨q, hq, rfl⟩ := List.mem_map.mp hp
      refine ⟨_, rfl, fun R h => h, fun y hy R h => ?_⟩
      cases hy
      simp only [evs_, dX]
      refine ⟨W.int (q.headD 0 : Nat), ?_, h⟩
      cases q with
      | nil => exact absurd rfl (ok.ne [] hq)
      | cons f q => exact at0
    · have hf : (t.parts.map fun q => (W.tup (wInts q), some (W.int (q.headD 0 : Nat)))).filterMap (·.2) = (natI (t.parts.map fun q => q.headD 0)).map W.int := by
        rw [fm_some]
        unfold natI
        rw [List.map_map, List.map_map]
        rfl
      rw [hf]
      refine ⟨natI t.parts.flatten, ?_, fun ns' h1 h2 => ?_⟩
      · show _ = _
        rw [← wInts_eq]; exact mup_at
      · have hr : natI (List.range m) = ns' := by
          refine srt_eq (natI_lt List.pairwise_lt_range) (srt_lt h2 (h1.nodup_iff.mpr ?_)) fun k => ?_
          · unfold natI
            rw [List.nodup_iff_pairwise_ne, List.pairwise_map]
            exact (List.nodup_iff_pairwise_ne.mp ok.one).imp fun h => by omega
          · rw [h1.mem_iff, mem_ints', mem_ints']
            constructor
            · rintro ⟨f, rfl, hf⟩
              obtain ⟨q, hq, hf⟩ := (ok.all f).mp (List.mem_range.mp hf)
              exact ⟨f, rfl, List.mem_flatten.mpr ⟨q, hq, hf⟩⟩
            · rintro ⟨f, rfl, hf⟩
              obtain ⟨q, hq, hf⟩ := List.mem_flatten.mp hf
              exact ⟨f, rfl, List.mem_range.mpr ((ok.all f).mpr ⟨q, hq, hf⟩)⟩
        rw [← hr]
        simp only [evs_, rangeL_natI, eq_same]
        refine ⟨by omega, by omega, natI (t.parts.map fun q => q.headD 0), show _ = _ from rfl, fun ns2 h3 h4 => ?_⟩
        rw [srt_perm h3 h4 (natI_lt ok.fst)]
        simp only [evs_, eq_same]
        exact fg_mup hL q
theorem fm_none {α : Type} {g : α → W} : ∀ {l : List α}, (l.map fun f => (g f, (none : Option W))).filterMap (·.2) = []
  | [] => rfl
  | f :: l => by rw [List.map_cons, List.filterMap_cons]; exact fm_none
def sp_are_numbers : Nat → Wp := fun k ws M Q _ => ∃ (t : Tr) (m : Nat), ws = [.tup (encPs t.parts)] ∧ t.Ok m ∧ m ≤ 8 ∧ 1 ≤ k ∧ Q (.bl true) M
theorem keep_are_numbers {Γ : Gam} {k : Nat} (f_is_number : Γ.fn 0 = dn sp_is_number k) : KeepC Γ n_are_numbers 1 c_are_numbers (sp_are_numbers k) := by
  rintro ws M Q Ex ⟨t, m, rfl, ok, hm, hk, q⟩
  refine ⟨rfl, ?_⟩
  show dSs Γ _ _ [some (.tup (encPs t.parts)), none, none] M
  cases k with
  | zero => omega
  | succ k =>
  simp only [evs_, c_are_numbers, c_are_numbers_1]
  refine for_inv (fun i σ M' => (∃ x y, σ = [some (.tup (encPs t.parts)), x, y]) ∧ M' = M) (fun _ _ _ _ => trivial) _ 0 ⟨⟨_, _, rfl⟩, rfl⟩ (fun i x σ M' K e h hK => ?_) (fun σ M' h => ?_)
  · obtain ⟨⟨x2, y2, rfl⟩, rfl⟩ := h
    unfold encPs at e
    rw [List.getElem?_map] at e
    cases hq : t.parts[i]? with
    | none => rw [hq] at e; cases e
    | some q =>
    rw [hq] at e
    cases e
    have hmem := List.mem_of_getElem? hq
    have hql : q.length ≤ 8 := Nat.le_trans (nodup_len m (ok.nodup hmem) fun x hx => (ok.all x).mpr ⟨q, hmem, hx⟩) hm
    simp only [evs_, c_are_numbers_3, c_are_numbers_2, c_are_numbers_1, c_are_numbers, dLc, wipeW, wInts_len]
    refine ⟨szl (by omega), lc_of (q.map fun f : Nat => (W.int f, none)) (by unfold wInts; rw [List.map_map]; rfl) (fun _ _ _ => trivial) (fun D hD pr hp us => ?_) ?_⟩
    · obtain ⟨f, hf, rfl⟩ := List.mem_map.mp hp
      have hfm : f < m := (ok.all f).mpr ⟨q, hmem, hf⟩
      refine ⟨_, rfl, fun R h => ?_, fun y hy => nomatch hy⟩
      simp only [evs_, f_is_number, dn]
      refine use_num (by omega) (by omega) ?_
      simp only [evs_, dX]
      exact h
    · rw [fm_none, ne_lst0 pl_nilL]
      simp only [evs_, dX]
      exact hK _ _ ⟨⟨_, _, rfl⟩, rfl⟩
  · obtain ⟨⟨x2, y2, rfl⟩, rfl⟩ := h
    simp only [evs_, c_are_numbers_3, c_are_numbers_2, c_are_numbers_1, c_are_numbers]
    exact q
def Tr.hop (t : Tr) : Nat → Int → Int
  | 0, i => i
  | k + 1, i => Tr.hop t k (if 0 ≤ i then t.st i.toNat else i)
theorem Tr.hop_succ (t : Tr) : ∀ (k : Nat) (i : Int), t.hop (k + 1) i = if 0 ≤ t.hop k i then t.st (t.hop k i).toNat else t.hop k i
  | 0, i => rfl
  | k + 1, i => by rw [Tr.hop, Tr.hop_succ t k]; rfl
theorem Tr.Ok.hop_lt {m : Nat} {t : Tr} (ok : t.Ok m) {i : Nat} (hi : i < t.parts.length) : ∀ k, -1 ≤ t.hop k i ∧ (0 ≤ t.hop k i → (t.hop k i).toNat < t.parts.length)
  | 0 => ⟨by unfold Tr.hop; omega, fun _ => by unfold Tr.hop; omega⟩
  | k + 1 => by
    have ih := Tr.Ok.hop_lt ok hi k
    rw [Tr.hop_succ]
    by_cases h : 0 ≤ t.hop k i
    · rw [if_pos h]; exact ⟨ok.st_ge _, fun h => ok.st_lt h⟩
    · rw [if_neg h]; exact ih
theorem Tr.Ok.hop_end {m : Nat} {t : Tr} (ok : t.Ok m) {i : Nat} (hi : i < t.parts.length) : t.hop (t.parts.length + 1) i < 0 := by
  obtain ⟨r, h1, h2⟩ := ok.rk
  have key : ∀ k : Nat, t.hop k i < 0 ∨ r (t.hop k i).toNat + k < t.parts.length := by
    intro k
    induction k with
    | zero => right; unfold Tr.hop; have := h1 i hi; simpa using this
    | succ k ih =>
      rw [Tr.hop_succ]
      by_cases h : 0 ≤ t.hop k i
      · rw [if_pos h]
        by_cases h0 : t.st (t.hop k i).toNat < 0
        · exact .inl h0
        · right
          rcases ih with z | z
          · omega
          · have := h2 _ ((ok.hop_lt hi k).2 h) (by omega)
            omega
      · rw [if_neg h]; left; omega
  rcases key (t.parts.length + 1) with h | h
  · exact h
  · omega
theorem st_at {t : Tr} {i : Nat} (hi : i < t.stands.length) : atI (t.stands.map W.int) (i : Int) = some (.int (t.st i)) := by
  refine atN ?_
  rw [List.getElem?_map, List.getElem?_eq_getElem hi]
  unfold Tr.st
  rw [List.getD_eq_getElem?_getD, List.getElem?_eq_getElem hi]
  rfl
def sp_is_without_rings : Nat → Wp := fun _ ws M Q _ => ∃ (t : Tr) (m : Nat), ws = [.tup (t.stands.map W.int)] ∧ t.Ok m ∧ m ≤ 8 ∧ Q (.bl true) M
theorem keep_is_without_rings {Γ : Gam} {k : Nat} : KeepC Γ n_is_without_rings 1 c_is_without_rings (sp_is_without_rings k) := by
  rintro ws M Q Ex ⟨t, m, rfl, ok, hm, q⟩
  refine ⟨rfl, ?_⟩
  show dSs Γ _ _ [some (.tup (t.stands.map W.int)), none, none, none] M
  have hl := ok.len
  have h8 := ok.len_le
  simp only [evs_, c_is_without_rings, c_is_without_rings_1, List.length_map]
  refine ⟨by omega, by omega, for_range (fun i σ M' => (∃ x y z, σ = [some (.tup (t.stands.map W.int)), x, y, z]) ∧ M' = M) ⟨⟨_, _, _, rfl⟩, rfl⟩ (fun i σ M' K hi h hK => ?_) (fun σ M' h => ?_)⟩
  · obtain ⟨⟨x, y, z, rfl⟩, rfl⟩ := h
    have hi' : i < t.parts.length := by omega
    simp only [evs_, c_is_without_rings_2, c_is_without_rings_3, List.length_map]
    refine ⟨by omega, by omega, ?_⟩
    have e1 : ((t.stands.length : Int) + 1) = ((t.stands.length + 1 : Nat) : Int) := by omega
    rw [e1]
    refine for_range (fun k σ M'' => (∃ z, σ = [some (.tup (t.stands.map W.int)), some (.int i), some (.int (t.hop k i)), z]) ∧ M'' = M') ⟨⟨_, rfl⟩, rfl⟩ (fun k σ M'' K2 hk h hK2 => ?_) (fun σ M'' h => ?_)
    · obtain ⟨⟨z, rfl⟩, rfl⟩ := h
      have hh := ok.hop_lt hi' k
      simp only [evs_, c_is_without_rings_5]
      by_cases h0 : 0 ≤ t.hop k i
      · have hlt := hh.2 h0
        obtain ⟨j, hj⟩ := Int.eq_ofNat_of_zero_le h0
        rw [hj] at hlt ⊢
        simp only [evs_, if_true, st_at (t := t) (i := j) (by omega), Int.natCast_nonneg, ge_iff_le]
        refine hK2 _ _ ⟨⟨some (.int k), ?_⟩, rfl⟩
        rw [Tr.hop_succ, hj, if_pos (Int.natCast_nonneg j)]
        rfl
      · simp only [evs_, if_false, h0, ge_iff_le]
        refine hK2 _ _ ⟨⟨some (.int k), ?_⟩, rfl⟩
        rw [Tr.hop_succ, if_neg h0]
    · obtain ⟨⟨z, rfl⟩, rfl⟩ := h
      have he := ok.hop_end hi'
      rw [← hl] at he
      have hn : ¬ (0 ≤ t.hop (t.stands.length + 1) i) := by omega
      simp only [evs_, c_is_without_rings_5, c_is_without_rings_6, c_is_without_rings_4, c_is_without_rings_3, c_is_without_rings_2, c_is_without_rings_1, c_is_without_rings, hn, ge_iff_le]
      exact hK _ _ ⟨⟨_, _, _, rfl⟩, rfl⟩
  · obtain ⟨⟨x, y, z, rfl⟩, rfl⟩ := h
    simp only [evs_, c_is_without_rings_5, c_is_without_rings_6, c_is_without_rings_4, c_is_without_rings_3, c_is_without_rings_2, c_is_without_rings_1, c_is_without_rings]
    exact q
def sp_is_tree : Nat → Wp := fun k ws M Q _ => ∃ (p : List (Nat × Bd)) (t : Tr), ws = [encP p, encT t] ∧ t.Ok p.length ∧ p.length ≤ 8 ∧ 2 ≤ k ∧ Q (.bl true) M
theorem keep_is_tree {Γ : Gam} {k : Nat} (f_are_numbers : Γ.fn 15 = dn sp_are_numbers k) (f_are_parts : Γ.fn 14 = dn sp_are_parts k) (f_is_number : Γ.fn 0 = dn sp_is_number k) (f_is_without_rings : Γ.fn 16 = dn sp_is_without_rings k) : KeepC Γ n_is_tree 2 c_is_tree (sp_is_tree k) := by
  rintro ws M Q Ex ⟨p, t, rfl, ok, h8, hk, q⟩
  refine ⟨rfl, ?_⟩
  show dSs Γ _ _ [some (encP p), some (encT t), none, none, none] M
  obtain ⟨k, rfl⟩ : ∃ j, k = j + 2 := ⟨k - 2, by omega⟩
  have hl := ok.len
  have hl8 := ok.len_le
  have e0 : (encPs t.parts).length = t.parts.length := by unfold encPs; rw [List.length_map]
  simp only [evs_, encP, encT, c_is_tree_6, c_is_tree_7, c_is_tree_8, c_is_tree_9, c_is_tree_5, c_is_tree_4, c_is_tree_3, c_is_tree_2, c_is_tree_1, c_is_tree, dLc, wipeW, f_are_numbers, f_are_parts, f_is_number, f_is_without_rings, dn, List.length_map, e0]
  refine ⟨t, _, rfl, ok, h8, by omega, ?_⟩
  simp only [evs_, dX]
  refine ⟨t, p.length, rfl, ok, h8, ?_⟩
  simp only [evs_, hl]
  refine ⟨szl (by omega), lc_of (t.stands.map fun f : Int => (W.int f, none)) (by rw [List.map_map]; rfl) (fun _ _ _ => trivial) (fun D hD pr hp us => ?_) ?_⟩
  · obtain ⟨f, hf, rfl⟩ := List.mem_map.mp hp
    have := ok.lo f hf
    refine ⟨_, rfl, fun R h => ?_, fun y hy => nomatch hy⟩
    simp only [evs_, f_are_numbers, f_are_parts, f_is_number, f_is_without_rings, dn]
    refine use_num (by omega) (by omega) ?_
    simp only [evs_, dX]
    exact h
  · rw [fm_none, ne_lst0 pl_nilL]
    simp only [evs_, dX]
    exact ⟨t, _, rfl, ok, h8, q⟩
def sp_need_tree : Nat → Wp := fun k ws M Q _ => ∃ (p : List (Nat × Bd)) (t : Tr), ws = [encP p, encT t] ∧ PrOk p ∧ t.Ok p.length ∧ 10 ≤ k ∧ Q .non M
theorem keep_need_tree {Γ : Gam} {k : Nat} (f_need_program : Γ.fn 3 = dn sp_need_program k) (f_is_tree : Γ.fn 17 = dn sp_is_tree k) : KeepC Γ n_need_tree 2 c_need_tree (sp_need_tree k) := by
  rintro ws M Q Ex ⟨p, t, rfl, pok, ok, hk, q⟩
  refine ⟨rfl, ?_⟩
  show dSs Γ _ _ [some (encP p), some (encT t)] M
  cases k with
  | zero => omega
  | succ k =>
  simp only [evs_, c_need_tree_2, c_need_tree_1, c_need_tree, f_need_program, f_is_tree, dn]
  refine ⟨p, rfl, pok, by omega, ?_⟩
  refine ⟨p, t, rfl, ok, pok.l8, by omega, ?_⟩
  simp only [evs_, dX]
  exact q
def sp_need_function : Nat → Wp := fun k ws M Q _ => ∃ (p : List (Nat × Bd)) (f : Nat), ws = [encP p, .int f] ∧ f < p.length ∧ 1 ≤ k ∧ Q .non M
theorem keep_need_function {Γ : Gam} {k : Nat} (f_is_number : Γ.fn 0 = dn sp_is_number k) : KeepC Γ n_need_function 2 c_need_function (sp_need_function k) := by
  rintro ws M Q Ex ⟨p, f, rfl, hf, hk, q⟩
  refine ⟨rfl, ?_⟩
  show dSs Γ _ _ [some (encP p), some (.int f)] M
  cases k with
  | zero => omega
  | succ k =>
  simp only [evs_, c_need_function_1, c_need_function, encP, f_is_number, dn, List.length_map]
  refine use_num (by omega) (by omega) ?_
  simp only [evs_, dX]
  exact q
end WL
namespace WL
open PySem L2
local macro_rules | `(tactic| simp only [evs_, $xs,*]) => `(tactic| simp only [dX, dXs, dXo, dXi, dSc, d2, d1, dN, dVar, dC, dTup, dLst, dTru, dB, dChain, dIte, dNotV, dNotT, dJoinV, dJoinT, dNil, dCons, dCall, dBM, dIsi, dIsi2, dAttr, dMeth, dNew, dDget, dDin, dDnew, dKidx, dKin, dKget, dDisp, dFrz, dRev, dLrg, dSset, dSlice, dNoPart, dPart, dDfz, dRaise, dTry, dCatch, dKind, isx_eq, xfl_eq, dIsc, Gam.low, dAsg, dExpr, dRet, dIf, dFld, dSet, dDput, dNever, dFor, dNext, binP, cmpP, iSeqD, iRg1, iRg2, iZip, iEnumD, Tg.asg, setAll, List.set, List.map_cons, List.map_nil, subW, modW, fdivW, powW, ltW, leW, gtW, geW, newL, finD, frzO, tupW, listW, oneW, twoW, BI.w, ints_eq, add_int, add_str, add_tup, add_lst, mul_int, mul_lst, mul_tup, idx_tup, idx_lst, idx_scr, idx_str, len_tup, len_lst, len_scr, len_str, sl_tup, sl_lst, neg_int, str_int, str_str, int_int, int_bl, is_non, is_int, is_str, is_tup, is_lst, is_bl, is_bb, dss_cons, eq_int, eq_str, eq_bl, ne_int, ne_str, ne_bl, eq_nilL, ty_non, ty_bl, ty_int, ty_str, ty_tup, ty_lst, ty_scr, ty_dk, Ty.sub, tr_bl, tr_non, tr_int, tr_str, sv_lst, sv_tup, sv_scr, lv_lst, at0, at1, at2, cut1, len0, ss_nil, for_nil, for_cons, pairs_cons, pairs_nil, pairs_nil', walk_lst, walk_scr, walk_tup, walk_str, walk_ref, List.getElem?_cons_zero, List.getElem?_cons_succ, List.length_cons, List.length_nil, List.append_nil, List.cons_append, List.nil_append, Option.some.injEq, W.int.injEq, W.str.injEq, W.bl.injEq, W.tup.injEq, W.lst.injEq, W.ref.injEq, List.cons.injEq, Option.map_some, exists_and_left, exists_and_right, exists_eq_left, exists_eq_left', exists_eq, exists_eq', exists_eq_right, exists_eq_right', and_true, true_and, and_assoc, reduceIte, reduceCtorEq, decide_true, decide_false, decide_eq_true_eq, decide_eq_false_iff_not, Bool.not_eq_true', Bool.not_eq_false', Bool.true_eq_false, Bool.false_eq_true, if_true, if_false, Bool.not_true, Bool.not_false, ite_true, ite_false, Int.cast_ofNat_Int, Int.reduceAdd, Int.reduceSub, Int.reduceEq, Int.reduceLT, Int.reduceLE, Int.natCast_add, Nat.reduceEqDiff, Nat.reduceAdd, Nat.add_zero, Nat.zero_add, Nat.succ_ne_zero, not_true_eq_false, not_false_eq_true, Option.getD_some, Option.getD_none, Option.isSome_some, Option.isSome_none, $xs,*])
def c_Laid_ini_10 : Ss := .cons (.expr (.meth 6 (.var 0) (.cons (.var 3) .nil))) .nil
def c_Laid_ini_15 : Ss := .cons (.asg (.name 6) (.bin .Add false (.var 6) (.idx (.attr (.var 0) "sizes") (.var 7)))) .nil
def c_Laid_ini_14 : Ss := .cons (.dput (.attr (.var 0) "first") (.var 7) (.var 6)) c_Laid_ini_15
def c_Laid_ini_13 : Ss := .cons (.dput (.attr (.var 0) "part_of") (.var 7) (.var 3)) c_Laid_ini_14
def c_Laid_ini_12 : Ss := .cons (.for_ (.name 7) (.seq (.idx (.var 4) (.var 3))) c_Laid_ini_13) .nil
def c_Laid_ini_11 : Ss := .cons (.asg (.name 6) (.dget (.attr (.var 0) "begins") (.var 3))) c_Laid_ini_12
def c_Laid_ini_9 : Ss := .cons (.for_ (.name 3) (.rg1 (.blt false .len (.cons (.var 4) .nil))) c_Laid_ini_11) .nil
def c_Laid_ini_8 : Ss := .cons (.fld (.var 0) "first" .dnew) c_Laid_ini_9
def c_Laid_ini_7 : Ss := .cons (.fld (.var 0) "part_of" .dnew) c_Laid_ini_8
def c_Laid_ini_6 : Ss := .cons (.for_ (.name 3) (.rg1 (.blt false .len (.cons (.var 4) .nil))) c_Laid_ini_10) c_Laid_ini_7
def c_Laid_ini_5 : Ss := .cons (.fld (.var 0) "ends" .dnew) c_Laid_ini_6
def c_Laid_ini_4 : Ss := .cons (.fld (.var 0) "begins" .dnew) c_Laid_ini_5
def c_Laid_ini_3 : Ss := .cons (.fld (.var 0) "stands" (.var 5)) c_Laid_ini_4
def c_Laid_ini_2 : Ss := .cons (.fld (.var 0) "parts" (.var 4)) c_Laid_ini_3
def c_Laid_ini_1 : Ss := .cons (.fld (.var 0) "sizes" (.lc false (.var 8) (.tup [8, 9]) (.seq (.var 1)) .none [("size", 8), ("body", 9)])) c_Laid_ini_2
def c_Laid_ini : Ss := .cons (.asg (.tup [4, 5]) (.var 2)) c_Laid_ini_1
def n_Laid_ini : List Str := ["self", "program", "tree", "part", "parts", "stands", "cell", "function", "size", "body"]
def c_Laid_lay_5 : Ss := .cons (.expr (.meth 6 (.var 0) (.cons (.var 2) .nil))) .nil
def c_Laid_lay_4 : Ss := .cons (.dput (.attr (.var 0) "ends") (.var 1) (.bin .Add false (.dget (.attr (.var 0) "begins") (.var 1)) (.blt false .sum (.cons (.lc false (.idx (.attr (.var 0) "sizes") (.var 3)) (.name 3) (.seq (.idx (.attr (.var 0) "parts") (.var 1))) .none [("function", 3)]) .nil)))) .nil
def c_Laid_lay_3 : Ss := .cons (.dput (.attr (.var 0) "begins") (.var 1) (.ite (.cmp .GtE (.var 2) (.lit (.int 0))) (.dget (.attr (.var 0) "ends") (.var 2)) (.lit (.int 0)))) c_Laid_lay_4
def c_Laid_lay_2 : Ss := .cons (.ite (.cmp .GtE (.var 2) (.lit (.int 0))) c_Laid_lay_5 .nil) c_Laid_lay_3
def c_Laid_lay_1 : Ss := .cons (.asg (.name 2) (.idx (.attr (.var 0) "stands") (.var 1))) c_Laid_lay_2
def c_Laid_lay : Ss := .cons (.ite (.din true (.var 1) (.attr (.var 0) "begins")) c_Laid_lay_1 .nil) .nil
def n_Laid_lay : List Str := ["self", "part", "under", "function"]
def c_Laid_down_5 : Ss := .cons (.asg (.name 3) (.idx (.attr (.var 0) "stands") (.var 3))) .nil
def c_Laid_down_4 : Ss := .cons (.expr (.bm true .append (.var 2) (.cons (.var 3) .nil))) c_Laid_down_5
def c_Laid_down_3 : Ss := .cons (.ret (.rev true (.var 2))) .nil
def c_Laid_down_2 : Ss := .cons (.while_ (.cmp .GtE (.var 3) (.lit (.int 0))) c_Laid_down_4) c_Laid_down_3
def c_Laid_down_1 : Ss := .cons (.asg (.name 3) (.dget (.attr (.var 0) "part_of") (.var 1))) c_Laid_down_2
def c_Laid_down : Ss := .cons (.asg (.name 2) (.lst true .nil)) c_Laid_down_1
def n_Laid_down : List Str := ["self", "function", "found", "part"]
def c_Laid_wanted : Ss := .cons (.ret (.blt false .maxL (.cons (.lock (.lc false (.dget (.attr (.var 0) "ends") (.var 1)) (.name 1) (.keys (.attr (.var 0) "ends")) .none [("part", 1)])) .nil))) .nil
def n_Laid_wanted : List Str := ["self", "part"]
def c_places_2 : Ss := .cons (.ret (.lc true (.dget (.attr (.var 2) "first") (.var 3)) (.name 3) (.rg1 (.blt false .len (.cons (.var 0) .nil))) .none [("function", 3)])) .nil
def c_places_1 : Ss := .cons (.asg (.name 2) (.dfz (.new true 16 (.cons (.var 0) (.cons (.var 1) .nil))))) c_places_2
def c_places : Ss := .cons (.expr (.call 18 (.cons (.var 0) (.cons (.var 1) .nil)))) c_places_1
def n_places : List Str := ["program", "tree", "laid", "function"]
def c_wanted_1 : Ss := .cons (.ret (.meth 8 (.dfz (.new true 16 (.cons (.var 0) (.cons (.var 1) .nil)))) .nil)) .nil
def c_wanted : Ss := .cons (.expr (.call 18 (.cons (.var 0) (.cons (.var 1) .nil)))) c_wanted_1
def n_wanted : List Str := ["program", "tree"]
def c_way_down_2 : Ss := .cons (.ret (.meth 7 (.dfz (.new true 16 (.cons (.var 0) (.cons (.var 1) .nil)))) (.cons (.var 2) .nil))) .nil
def c_way_down_1 : Ss := .cons (.expr (.call 19 (.cons (.var 0) (.cons (.var 2) .nil)))) c_way_down_2
def c_way_down : Ss := .cons (.expr (.call 18 (.cons (.var 0) (.cons (.var 1) .nil)))) c_way_down_1
def n_way_down : List Str := ["program", "tree", "function"]
theorem gval_map {α κ β : Type} [DecidableEq κ] {f : α → κ} {g : α → β} (inj : ∀ a b, f a = f b → a = b) [DecidableEq α] {k : α} : ∀ {l : List α}, gval (l.map fun a => (f a, g a)) (f k) = if k ∈ l then some (g k) else none
  | [] => by simp [gval]
  | a :: l => by
    rw [List.map_cons]
    unfold gval
    by_cases h : f a = f k
    · have := inj _ _ h
      subst this
      rw [if_pos rfl, if_pos (by simp)]
    · rw [if_neg h, gval_map inj]
      have : k ≠ a := fun z => h (by rw [z])
      by_cases hk : k ∈ l
      · rw [if_pos hk, if_pos (List.mem_cons_of_mem _ hk)]
      · rw [if_neg hk, if_neg (by simp [this, hk])]
theorem gput_map {α κ β : Type} [DecidableEq κ] {f : α → κ} {g : α → β} (inj : ∀ a b, f a = f b → a = b) {k : α} {v : β} {l : List α} (h : k ∉ l) (hv : v = g k) : gput (f k) v (l.map fun a => (f a, g a)) = (l ++ [k]).map fun a => (f a, g a) := by
  unfold gput
  have : ((l.map fun a => (f a, g a)).any fun p => decide (p.1 = f k)) = false := by
    rw [List.any_eq_false]
    intro p hp
    obtain ⟨a, ha, rfl⟩ := List.mem_map.mp hp
    simp only [decide_eq_true_eq]
    exact fun z => h (inj _ _ z ▸ ha)
  rw [if_neg (by rw [this]; exact Bool.false_ne_true), List.map_append, hv]
  rfl
theorem zip_map {α : Type} {f : α → Key} {g : α → W} : ∀ {l : List α}, zipK (l.map f) (l.map g) = l.map fun a => (f a, g a)
  | [] => rfl
  | a :: l => by rw [List.map_cons, List.map_cons, List.map_cons]; unfold zipK; rw [zip_map]
def kN (i : Nat) : Key := .inl (i : Int)
theorem kN_inj (a b : Nat) (h : kN a = kN b) : a = b := by
  unfold kN at h
  have := Sum.inl.inj h
  omega
theorem toKey_nat {i : Nat} : toKey (.int i) = some (kN i) := rfl
def dN_ (g : Nat → Nat) (l : List Nat) : List (Key × W) := l.map fun i => (kN i, W.int (g i))
theorem dlook_refN {M : Mh} {a : Addr} {g : Nat → Nat} {l : List Nat} {i : Nat} (h : M a = some (.dk (dN_ g l))) : dlook M (.ref a) (.int i) = some (if i ∈ l then some (.int (g i)) else none) := by
  simp only [dlook, h, toKey_nat, Option.map_some]
  unfold dN_
  rw [gval_map kN_inj]
theorem dlook_lkN {M : Mh} {a : Addr} {g : Nat → Nat} {l : List Nat} {i : Nat} (h : M a = some (.lk (dN_ g l))) : dlook M (.ref a) (.int i) = some (if i ∈ l then some (.int (g i)) else none) := by
  simp only [dlook, h, toKey_nat, Option.map_some]
  unfold dN_
  rw [gval_map kN_inj]
def fzN (g : Nat → Nat) (l : List Nat) : W := .dk (l.map kN) (l.map fun i => W.int (g i))
theorem dlook_fzN {M : Mh} {g : Nat → Nat} {l : List Nat} {i : Nat} : dlook M (fzN g l) (.int i) = some (if i ∈ l then some (.int (g i)) else none) := by
  unfold dlook fzN
  show (toKey (.int i)).map (fun k => gval (zipK (l.map kN) (l.map fun i => W.int (g i))) k) = _
  rw [toKey_nat, zip_map]
  show some (gval _ (kN i)) = _
  rw [gval_map kN_inj]
theorem dput_N {M : Mh} {a : Addr} {g : Nat → Nat} {l : List Nat} {i : Nat} {v : Int} {R : Mh → Prop} (h : M a = some (.dk (dN_ g l))) (hi : i ∉ l) (hv : v = g i) (hl : l.length ≤ 100) (q : R (mup M a (.dk (dN_ g (l ++ [i]))))) : dputW (.ref a) (.int i) (.int v) M R := by
  refine ⟨a, _, _, rfl, toKey_nat, h, szl (by unfold dN_; rw [List.length_map]; omega), ?_⟩
  have e2 : gput (kN i) (.int v) (dN_ g l) = dN_ g (l ++ [i]) := gput_map kN_inj hi (by rw [hv])
  rw [e2]
  exact q
theorem fld_ins {M : Mh} {x : Addr} {c : Nat} {fs : List (Str × W)} {f : Str} (h : M x = some (.ins c fs)) : fldW M (.ref x) f = lookF fs f := by
  simp only [fldW, h]
theorem ins_ins {M : Mh} {x : Addr} {c : Nat} {fs : List (Str × W)} (h : M x = some (.ins c fs)) : insW M (.ref x) = some (c, fs.map (·.1)) := by
  simp only [insW, h]
theorem mup_self {M : Mh} {a : Addr} {o : MO} (h : M a = some o) : mup M a o = M := by
  funext b
  unfold mup
  by_cases e : b = a
  · rw [if_pos e, e, h]
  · rw [if_neg e]
theorem mup_comm {M : Mh} {a b : Addr} {o u : MO} (h : a ≠ b) : mup (mup M a o) b u = mup (mup M b u) a o := by
  funext c
  unfold mup
  by_cases e : c = b
  · rw [if_pos e]
    by_cases e2 : c = a
    · exact absurd (e2.symm.trans e) h
    · rw [if_neg e2, if_pos e]
  · rw [if_neg e]
    by_cases e2 : c = a
    · rw [if_pos e2, if_pos e2]
    · rw [if_neg e2, if_neg e2, if_neg e]
theorem ne_ob {M : Mh} {a b : Addr} {o u : MO} (h : M a = some o) (h' : M b = some u) (d : o ≠ u) : a ≠ b := fun z => by
  rw [z, h'] at h
  exact d (Option.some.inj h).symm
def szs (p : List (Nat × Bd)) : Szs := p.map (·.1)
def LFs (p : List (Nat × Bd)) (t : Tr) (b e : Addr) (r : List (Str × W)) : List (Str × W) := ("sizes", .lst (wInts (szs p))) :: ("parts", .tup (encPs t.parts)) :: ("stands", .tup (t.stands.map W.int)) :: ("begins", .ref b) :: ("ends", .ref e) :: r
theorem lf_sizes {p : List (Nat × Bd)} {t : Tr} {b e : Addr} {r : List (Str × W)} : lookF (LFs p t b e r) "sizes" = some (.lst (wInts (szs p))) := rfl
theorem lf_parts {p : List (Nat × Bd)} {t : Tr} {b e : Addr} {r : List (Str × W)} : lookF (LFs p t b e r) "parts" = some (.tup (encPs t.parts)) := rfl
theorem lf_stands {p : List (Nat × Bd)} {t : Tr} {b e : Addr} {r : List (Str × W)} : lookF (LFs p t b e r) "stands" = some (.tup (t.stands.map W.int)) := rfl
theorem lf_begins {p : List (Nat × Bd)} {t : Tr} {b e : Addr} {r : List (Str × W)} : lookF (LFs p t b e r) "begins" = some (.ref b) := rfl
theorem lf_ends {p : List (Nat × Bd)} {t : Tr} {b e : Addr} {r : List (Str × W)} : lookF (LFs p t b e r) "ends" = some (.ref e) := rfl
structure LayM (p : List (Nat × Bd)) (t : Tr) (x b e : Addr) (os : List Nat) (M : Mh) : Prop where
  hx : M x = some (.ins 16 (LFs p t b e []))
  hb : M b = some (.dk (dN_ (t.beg (szs p)) os))
  he : M e = some (.dk (dN_ (t.fin (szs p)) os))
  ne : b ≠ e
  nd : os.Nodup
  lt : ∀ i ∈ os, i < t.parts.length
def sp_Laid_lay : Nat → Wp := fun k ws M Q _ => ∃ (x b e : Addr) (p : List (Nat × Bd)) (t : Tr) (os : List Nat) (i : Nat), ws = [.ref x, .int i] ∧ LayM p t x b e os M ∧ PrOk p ∧ t.Ok p.length ∧ i < t.parts.length ∧ (t.ups i).length ≤ k + 1 ∧
  ∀ os', i ∈ os' → (∀ j ∈ os, j ∈ os') → (∀ j ∈ os', j ∈ os ∨ j ∈ t.ups i) → LayM p t x b e os' (mup (mup M b (.dk (dN_ (t.beg (szs p)) os'))) e (.dk (dN_ (t.fin (szs p)) os'))) → Q .non (mup (mup M b (.dk (dN_ (t.beg (szs p)) os'))) e (.dk (dN_ (t.fin (szs p)) os')))
theorem psz_sum {p : List (Nat × Bd)} {t : Tr} {i : Nat} (ok : t.Ok p.length) (hi : i < t.parts.length) : ((t.part i).map fun f => ((sizeOf' (szs p) f : Nat) : Int)).sum = (t.psz (szs p) i : Nat) := by
  unfold Tr.psz
  generalize t.part i = l
  induction l with
  | nil => rfl
  | cons f l ih => rw [List.map_cons, List.map_cons, List.sum_cons, List.sum_cons, ih]; omega
theorem part_at {t : Tr} {i : Nat} (hi : i < t.parts.length) : atI (encPs t.parts) (i : Int) = some (.tup (wInts (t.part i))) := by
  refine atN ?_
  unfold encPs Tr.part
  rw [List.getElem?_map, List.getElem?_eq_getElem hi, List.getD_eq_getElem?_getD, List.getElem?_eq_getElem hi]
  rfl
theorem part_mem {t : Tr} {i : Nat} (hi : i < t.parts.length) : t.part i ∈ t.parts := by
  unfold Tr.part
  rw [List.getD_eq_getElem?_getD, List.getElem?_eq_getElem hi]
  exact List.getElem_mem hi
theorem part_get {t : Tr} {i : Nat} (hi : i < t.parts.length) : t.parts[i]? = some (t.part i) := by
  unfold Tr.part
  rw [List.getD_eq_getElem?_getD, List.getElem?_eq_getElem hi]
  rfl
theorem size_at {p : List (Nat × Bd)} {f : Nat} (h : f < p.length) : atI (wInts (szs p)) (f : Int) = some (.int (sizeOf' (szs p) f : Nat)) := by
  refine atN ?_
  unfold wInts szs sizeOf'
  rw [List.getElem?_map, List.getElem?_map, List.getElem?_eq_getElem h, List.getD_eq_getElem?_getD, List.getElem?_map, List.getElem?_eq_getElem h]
  rfl
theorem Tr.Ok.part_lt {m : Nat} {t : Tr} (ok : t.Ok m) {i f : Nat} (hi : i < t.parts.length) (hf : f ∈ t.part i) : f < m := (ok.all f).mpr ⟨_, part_mem hi, hf⟩
theorem Tr.Ok.part_len {m : Nat} {t : Tr} (ok : t.Ok m) {i : Nat} (hi : i < t.parts.length) : (t.part i).length ≤ m := nodup_len m (ok.nodup (part_mem hi)) fun x hx => ok.part_lt hi hx
theorem laid_nm : ∀ m : Str, m ∈ ([("lay" : Str), ("down" : Str), ("wanted" : Str)]) → m ∉ ([("sizes" : Str), ("parts" : Str), ("stands" : Str), ("begins" : Str), ("ends" : Str), ("part_of" : Str), ("first" : Str)]) := by decide
theorem laid_nm5 : ("lay" : Str) ∉ ([("sizes" : Str), ("parts" : Str), ("stands" : Str), ("begins" : Str), ("ends" : Str)]) := by decide
theorem keep_Laid_lay {Γ : Gam} {k : Nat} (mn_lay : Γ.meN 6 = "lay") (m_Laid_lay : Γ.me 16 6 = some (dn sp_Laid_lay k)) : KeepC Γ n_Laid_lay 2 c_Laid_lay (sp_Laid_lay k) := by
  rintro ws M Q Ex ⟨x, b, e, p, t, os, i, rfl, hM, pok, ok, hi, hk, q⟩
  refine ⟨rfl, ?_⟩
  show dSs Γ _ _ [some (.ref x), some (.int i), none, none] M
  have h8 := pok.l8
  have hl8 := ok.len_le
  simp only [evs_, c_Laid_lay, fld_ins hM.hx, lf_begins, dlook_refN hM.hb]
  by_cases hio : i ∈ os
  · have e1 : mup (mup M b (.dk (dN_ (t.beg (szs p)) os))) e (.dk (dN_ (t.fin (szs p)) os)) = M := by
      rw [mup_self hM.hb, mup_self hM.he]
    have := q os hio (fun _ h => h) (fun _ h => .inl h) (by rw [e1]; exact hM)
    rw [e1] at this
    simp only [evs_, hio, if_true]
    exact this
  · have hsl : i < t.stands.length := by have := ok.len; omega
    simp only [evs_, hio, if_false, c_Laid_lay_1, fld_ins hM.hx, lf_stands, st_at hsl, c_Laid_lay_2]
    have tail : ∀ os1, i ∉ os1 → (0 ≤ t.st i → (t.st i).toNat ∈ os1) → (∀ j ∈ os, j ∈ os1) → (∀ j ∈ os1, j ∈ os ∨ j ∈ t.ups i) →
        LayM p t x b e os1 (mup (mup M b (.dk (dN_ (t.beg (szs p)) os1))) e (.dk (dN_ (t.fin (szs p)) os1))) →
        dSs Γ c_Laid_lay_3 { nx := fun x M' => Q W.non M', rt := Q, ex := Ex } [some (W.ref x), some (W.int i), some (W.int (t.st i)), none] (mup (mup M b (.dk (dN_ (t.beg (szs p)) os1))) e (.dk (dN_ (t.fin (szs p)) os1))) := by
      intro os1 hi1 hu hsub hup h1
      have hlen : os1.length ≤ 8 := Nat.le_trans (nodup_len _ h1.nd h1.lt) (by omega)
      have hbeg := ok.beg (szs p) hi
      generalize hM1 : mup (mup M b (.dk (dN_ (t.beg (szs p)) os1))) e (.dk (dN_ (t.fin (szs p)) os1)) = M1 at h1 ⊢
      have hdl : (dN_ (t.beg (szs p)) os1).length ≤ 8 := by unfold dN_; rw [List.length_map]; exact hlen
      have hdl2 : (dN_ (t.fin (szs p)) os1).length ≤ 8 := by unfold dN_; rw [List.length_map]; exact hlen
      have ex : x ≠ b := ne_ob h1.hx h1.hb (by simp)
      have ee : x ≠ e := ne_ob h1.hx h1.he (by simp)
      have key : dSs Γ c_Laid_lay_4 { nx := fun x M' => Q W.non M', rt := Q, ex := Ex } [some (W.ref x), some (W.int i), some (W.int (t.st i)), none] (mup M1 b (.dk (dN_ (t.beg (szs p)) (os1 ++ [i])))) := by
        have x2 : mup M1 b (.dk (dN_ (t.beg (szs p)) (os1 ++ [i]))) x = some (.ins 16 (LFs p t b e [])) := by rw [mup_off ex]; exact h1.hx
        have b2 : mup M1 b (.dk (dN_ (t.beg (szs p)) (os1 ++ [i]))) b = some (.dk (dN_ (t.beg (szs p)) (os1 ++ [i]))) := mup_at
        have ee2 : mup M1 b (.dk (dN_ (t.beg (szs p)) (os1 ++ [i]))) e = some (.dk (dN_ (t.fin (szs p)) os1)) := by rw [mup_off (Ne.symm h1.ne)]; exact h1.he
        simp only [evs_, c_Laid_lay_4, dLc, wipeW, fld_ins x2, lf_begins, lf_parts, dlook_refN b2, part_at hi, List.mem_append, List.mem_singleton, or_true, wInts_len]
        refine ⟨szl (by have := ok.part_len hi; omega), lc_of ((t.part i).map fun f : Nat => (W.int f, some (W.int (sizeOf' (szs p) f : Nat)))) (by unfold wInts; rw [List.map_map]; rfl) (fun _ _ _ => trivial) (fun D hD pr hp us => ?_) ?_⟩
        · obtain ⟨f, hf, rfl⟩ := List.mem_map.mp hp
          have x3 : mup (mup M1 b (.dk (dN_ (t.beg (szs p)) (os1 ++ [i])))) D (.lst us) x = some (.ins 16 (LFs p t b e [])) := by rw [mup_off (fun z => by rw [z, hD] at x2; cases x2)]; exact x2
          refine ⟨_, rfl, fun R h => h, fun y hy R h => ?_⟩
          cases hy
          simp only [evs_, fld_ins x3, lf_sizes, size_at (ok.part_lt hi hf)]
          exact h
        · refine ⟨(t.part i).map fun f => ((sizeOf' (szs p) f : Nat) : Int), ?_, ?_⟩
          · show _ = _
            rw [fm_some, List.map_map]; rfl
          · rw [psz_sum ok hi]
            simp only [evs_, fld_ins x2, lf_ends]
            refine dput_N ee2 hi1 (by rw [ok.fin (szs p) hi]; omega) (by omega) ?_
            have hfin : mup (mup M1 b (.dk (dN_ (t.beg (szs p)) (os1 ++ [i])))) e (.dk (dN_ (t.fin (szs p)) (os1 ++ [i]))) = mup (mup M b (.dk (dN_ (t.beg (szs p)) (os1 ++ [i])))) e (.dk (dN_ (t.fin (szs p)) (os1 ++ [i]))) := by
              rw [← hM1, mup_comm h1.ne, mup_mup, mup_comm (Ne.symm h1.ne), mup_mup]
            have := q (os1 ++ [i]) (by simp) (fun j hj => List.mem_append_left _ (hsub j hj)) (fun j hj => (List.mem_append.mp hj).elim (hup j) fun z => .inr (by rw [List.mem_singleton.mp z, ok.ups hi]; simp)) (by
              rw [← hfin]
              refine ⟨by rw [mup_off ee]; exact x2, by rw [mup_off h1.ne]; exact b2, mup_at, h1.ne, ?_, fun j hj => ?_⟩
              · rw [List.nodup_append]
                exact ⟨h1.nd, by simp, fun a ha c hc => by rw [List.mem_singleton.mp hc]; exact fun z => hi1 (z ▸ ha)⟩
              · rcases List.mem_append.mp hj with z | z
                · exact h1.lt j z
                · rw [List.mem_singleton.mp z]; exact hi)
            rw [← hfin] at this
            exact this
      by_cases h0 : 0 ≤ t.st i
      · have hj := hu h0
        obtain ⟨j, ej⟩ := Int.eq_ofNat_of_zero_le h0
        rw [ej] at hj
        have hj' : j ∈ os1 := hj
        rw [if_pos h0, ej] at hbeg
        rw [ej] at key ⊢
        simp only [evs_, c_Laid_lay_3, if_true, ge_iff_le, Int.natCast_nonneg, fld_ins h1.hx, lf_ends, lf_begins, dlook_refN h1.he, hj']
        exact dput_N h1.hb hi1 (by rw [hbeg]; rfl) (by omega) key
      · rw [if_neg h0] at hbeg
        simp only [evs_, c_Laid_lay_3, if_false, ge_iff_le, h0, fld_ins h1.hx, lf_begins]
        exact dput_N h1.hb hi1 (by rw [hbeg]; rfl) (by omega) key
    by_cases h0 : 0 ≤ t.st i
    · obtain ⟨j, ej⟩ := Int.eq_ofNat_of_zero_le h0
      rw [ej] at tail ⊢
      simp only [evs_, if_true, Int.natCast_nonneg, c_Laid_lay_5, ins_ins hM.hx, Prod.mk.injEq, mn_lay, m_Laid_lay, dn]
      refine ⟨laid_nm5, ?_⟩
      have hups := ok.ups hi
      rw [if_pos h0, ej] at hups
      have hul : (t.ups i).length = (t.ups j).length + 1 := by rw [hups]; rfl
      have hj := ok.st_lt h0
      rw [ej] at hj
      have hj : j < t.parts.length := hj
      have hne := List.length_pos_iff.mpr (ok.ups_ne hj)
      cases k with
      | zero => omega
      | succ k =>
      refine ⟨x, b, e, p, t, os, j, rfl, hM, pok, ok, hj, by omega, fun os' h1 h2 h3 h4 => ?_⟩
      have hself := ok.self_up hi h0
      rw [ej] at hself
      exact tail os' (fun z => (h3 i z).elim hio hself) (fun _ => h1) h2 (fun l hl => (h3 l hl).imp id fun z => by rw [hups]; exact List.mem_cons_of_mem _ z) h4
    · have e1 : mup (mup M b (.dk (dN_ (t.beg (szs p)) os))) e (.dk (dN_ (t.fin (szs p)) os)) = M := by
        rw [mup_self hM.hb, mup_self hM.he]
      have := tail os hio (fun z => absurd z h0) (fun _ h => h) (fun _ h => .inl h) (by rw [e1]; exact hM)
      rw [e1] at this
      simp only [h0, if_false]
      exact this
end WL
namespace WL
open PySem L2
local macro_rules | `(tactic| simp only [evs_, $xs,*]) => `(tactic| simp only [dX, dXs, dXo, dXi, dSc, d2, d1, dN, dVar, dC, dTup, dLst, dTru, dB, dChain, dIte, dNotV, dNotT, dJoinV, dJoinT, dNil, dCons, dCall, dBM, dIsi, dIsi2, dAttr, dMeth, dNew, dDget, dDin, dDnew, dKidx, dKin, dKget, dDisp, dFrz, dRev, dLrg, dSset, dSlice, dNoPart, dPart, dDfz, dRaise, dTry, dCatch, dKind, isx_eq, xfl_eq, dIsc, Gam.low, dAsg, dExpr, dRet, dIf, dFld, dSet, dDput, dNever, dFor, dNext, binP, cmpP, iSeqD, iRg1, iRg2, iZip, iEnumD, Tg.asg, setAll, List.set, List.map_cons, List.map_nil, subW, modW, fdivW, powW, ltW, leW, gtW, geW, newL, finD, frzO, tupW, listW, oneW, twoW, BI.w, ints_eq, add_int, add_str, add_tup, add_lst, mul_int, mul_lst, mul_tup, idx_tup, idx_lst, idx_scr, idx_str, len_tup, len_lst, len_scr, len_str, sl_tup, sl_lst, neg_int, str_int, str_str, int_int, int_bl, is_non, is_int, is_str, is_tup, is_lst, is_bl, is_bb, dss_cons, eq_int, eq_str, eq_bl, ne_int, ne_str, ne_bl, eq_nilL, ty_non, ty_bl, ty_int, ty_str, ty_tup, ty_lst, ty_scr, ty_dk, Ty.sub, tr_bl, tr_non, tr_int, tr_str, sv_lst, sv_tup, sv_scr, lv_lst, at0, at1, at2, cut1, len0, ss_nil, for_nil, for_cons, pairs_cons, pairs_nil, pairs_nil', walk_lst, walk_scr, walk_tup, walk_str, walk_ref, List.getElem?_cons_zero, List.getElem?_cons_succ, List.length_cons, List.length_nil, List.append_nil, List.cons_append, List.nil_append, Option.some.injEq, W.int.injEq, W.str.injEq, W.bl.injEq, W.tup.injEq, W.lst.injEq, W.ref.injEq, List.cons.injEq, Option.map_some, exists_and_left, exists_and_right, exists_eq_left, exists_eq_left', exists_eq, exists_eq', exists_eq_right, exists_eq_right', and_true, true_and, and_assoc, reduceIte, reduceCtorEq, decide_true, decide_false, decide_eq_true_eq, decide_eq_false_iff_not, Bool.not_eq_true', Bool.not_eq_false', Bool.true_eq_false, Bool.false_eq_true, if_true, if_false, Bool.not_true, Bool.not_false, ite_true, ite_false, Int.cast_ofNat_Int, Int.reduceAdd, Int.reduceSub, Int.reduceEq, Int.reduceLT, Int.reduceLE, Int.natCast_add, Nat.reduceEqDiff, Nat.reduceAdd, Nat.add_zero, Nat.zero_add, Nat.succ_ne_zero, not_true_eq_false, not_false_eq_true, Option.getD_some, Option.getD_none, Option.isSome_some, Option.isSome_none, $xs,*])
def LF3 (p : List (Nat × Bd)) (t : Tr) : List (Str × W) := [("sizes", .lst (wInts (szs p))), ("parts", .tup (encPs t.parts)), ("stands", .tup (t.stands.map W.int))]
structure LaidI (p : List (Nat × Bd)) (t : Tr) (x b e po fi : Addr) (os fl : List Nat) (M : Mh) : Prop where
  hx : M x = some (.ins 16 (LFs p t b e [("part_of", .ref po), ("first", .ref fi)]))
  hb : M b = some (.dk (dN_ (t.beg (szs p)) os))
  he : M e = some (.dk (dN_ (t.fin (szs p)) os))
  hpo : M po = some (.dk (dN_ t.pof fl))
  hfi : M fi = some (.dk (dN_ (t.cell (szs p)) fl))
  nb : e ≠ b
  npo : e ≠ po
  nfi : e ≠ fi
  nbp : b ≠ po
  nbf : b ≠ fi
  npf : po ≠ fi
  lt : ∀ i ∈ os, i < t.parts.length
  all : ∀ i, i < t.parts.length → i ∈ os
  nd : os.Nodup
abbrev LaidM (p : List (Nat × Bd)) (t : Tr) (x b e po fi : Addr) (os : List Nat) (M : Mh) : Prop := LaidI p t x b e po fi os t.parts.flatten M
theorem takeW {l : List Nat} (nd : l.Nodup) : ∀ {j f : Nat}, l[j]? = some f → l.takeWhile (· != f) = l.take j := by
  induction l with
  | nil => intro j f h; simp at h
  | cons a l ih =>
    intro j f h
    rw [List.nodup_cons] at nd
    cases j with
    | zero => simp at h; subst h; simp
    | succ j =>
      have h : l[j]? = some f := by simpa using h
      have hne : a ≠ f := fun z => nd.1 (z ▸ List.mem_of_getElem? h)
      rw [List.takeWhile_cons, if_pos (by simpa using hne), ih nd.2 h, List.take_succ_cons]
theorem lf7_begins {p : List (Nat × Bd)} {t : Tr} {b e : Addr} : True := trivial
theorem lf_part_of {p : List (Nat × Bd)} {t : Tr} {b e po fi : Addr} : lookF (LFs p t b e [("part_of", .ref po), ("first", .ref fi)]) "part_of" = some (.ref po) := rfl
theorem lf_first {p : List (Nat × Bd)} {t : Tr} {b e po fi : Addr} : lookF (LFs p t b e [("part_of", .ref po), ("first", .ref fi)]) "first" = some (.ref fi) := rfl
theorem flat_sub {t : Tr} {i j : Nat} (hi : i < t.parts.length) : ((t.parts.take i).flatten ++ (t.part i).take j).Sublist t.parts.flatten := by
  refine List.Sublist.trans ?_ (flatten_take t.parts (i + 1))
  rw [List.take_succ, part_get hi]
  simp only [Option.toList_some, List.flatten_append, List.flatten_cons, List.flatten_nil, List.append_nil]
  exact (List.Sublist.refl _).append (List.take_sublist _ _)
def sp_Laid_ini : Nat → Wp := fun k ws M Q _ => ∃ (x : Addr) (p : List (Nat × Bd)) (t : Tr), ws = [.ref x, encP p, encT t] ∧ M x = some (.ins 16 []) ∧ PrOk p ∧ t.Ok p.length ∧ 9 ≤ k ∧
  ∀ b e po fi os M', M b = none → M e = none → M po = none → M fi = none → LaidM p t x b e po fi os M' → Fx1 x M M' → Q .non M'
theorem fx1_put {x c : Addr} {M M' : Mh} {o : MO} (h : Fx1 x M M') (hc : M c = none) : Fx1 x M (mup M' c o) := fun b u hb hn => by
  rw [mup_off (fun z => by rw [z, hc] at hb; cases hb)]
  exact h b u hb hn
theorem fx1_self {x : Addr} {M M' : Mh} {o : MO} (h : Fx1 x M M') : Fx1 x M (mup M' x o) := fun b u hb hn => by
  rw [mup_off hn]
  exact h b u hb hn
theorem Fx1.fresh {x c : Addr} {M M' : Mh} (h : Fx1 x M M') (hc : M' c = none) (hx : c ≠ x) : M c = none := by
  cases e : M c with
  | none => rfl
  | some o => rw [h c o e hx] at hc; cases hc
theorem keep_Laid_ini {Γ : Gam} {k : Nat} (mn_lay : Γ.meN 6 = "lay") (m_Laid_lay : Γ.me 16 6 = some (dn sp_Laid_lay k)) : KeepC Γ n_Laid_ini 3 c_Laid_ini (sp_Laid_ini k) := by
  rintro ws M Q Ex ⟨x, p, t, rfl, hx, pok, ok, hk, q⟩
  refine ⟨rfl, ?_⟩
  show dSs Γ _ _ [some (.ref x), some (encP p), some (encT t), none, none, none, none, none, none, none] M
  have h8 := pok.l8
  have hl8 := ok.len_le
  obtain ⟨k, rfl⟩ : ∃ j, k = j + 9 := ⟨k - 9, by omega⟩
  simp only [evs_, c_Laid_ini, c_Laid_ini_1, encT, encP, dLc, wipeW, List.length_map]
  refine ⟨szl (by omega), lc_of (p.map fun f => (encF f, some (.int (f.1 : Nat)))) (by simp [Function.comp]) (fun _ _ _ => trivial) (fun D hD pr hp us => ?_) ?_⟩
  · obtain ⟨f, hf, rfl⟩ := List.mem_map.mp hp
    exact ⟨_, rfl, fun R h => h, fun y hy R h => by cases hy; exact ⟨_, rfl, h⟩⟩
  · have hs : (p.map fun f => (encF f, some (W.int (f.1 : Nat)))).filterMap (·.2) = wInts (szs p) := by
      rw [fm_some]; unfold wInts szs; rw [List.map_map]; rfl
    rw [hs]
    refine ⟨_, _, hx, by decide, ?_⟩
    simp only [evs_, c_Laid_ini_2]
    refine ⟨_, _, mup_at, (by show (1 : Nat) < 1000; decide), ?_⟩
    simp only [evs_, c_Laid_ini_3]
    refine ⟨_, _, mup_at, (by show (2 : Nat) < 1000; decide), ?_⟩
    simp only [mup_mup]
    have e3 : putW "stands" (.tup (t.stands.map W.int)) (putW "parts" (.tup (encPs t.parts)) (putW "sizes" (.lst (wInts (szs p))) [])) = LF3 p t := rfl
    rw [e3]
    have f3 : Fx1 x M (mup M x (.ins 16 (LF3 p t))) := fun b o hb hn => by rw [mup_off hn]; exact hb
    have x3 : (mup M x (.ins 16 (LF3 p t))) x = some (.ins 16 (LF3 p t)) := mup_at
    generalize (mup M x (.ins 16 (LF3 p t))) = M3 at f3 x3 ⊢
    simp only [evs_, c_Laid_ini_4]
    intro b hb
    have nbx : b ≠ x := fun z => by rw [z, x3] at hb; cases hb
    have hb0 := f3.fresh hb nbx
    refine ⟨_, _, by rw [mup_off (Ne.symm nbx)]; exact x3, (by show (3 : Nat) < 1000; decide), ?_⟩
    have f4 := fx1_self (o := .ins 16 (putW "begins" (.ref b) (LF3 p t))) (fx1_put (o := .dk []) f3 hb0)
    have x4 : (mup (mup M3 b (.dk [])) x (.ins 16 (putW "begins" (.ref b) (LF3 p t)))) x = some (.ins 16 _) := mup_at
    have b4 : (mup (mup M3 b (.dk [])) x (.ins 16 (putW "begins" (.ref b) (LF3 p t)))) b = some (.dk []) := by rw [mup_off nbx]; exact mup_at
    generalize (mup (mup M3 b (.dk [])) x (.ins 16 (putW "begins" (.ref b) (LF3 p t)))) = M4 at f4 x4 b4 ⊢
    simp only [evs_, c_Laid_ini_5]
    intro e he
    have nex : e ≠ x := fun z => by rw [z, x4] at he; cases he
    have neb : e ≠ b := fun z => by rw [z, b4] at he; cases he
    have he0 := f4.fresh he nex
    refine ⟨_, _, by rw [mup_off (Ne.symm nex)]; exact x4, (by show (4 : Nat) < 1000; decide), ?_⟩
    have e5 : putW "ends" (.ref e) (putW "begins" (.ref b) (LF3 p t)) = LFs p t b e [] := rfl
    rw [e5]
    have f5 := fx1_self (o := .ins 16 (LFs p t b e [])) (fx1_put (o := .dk []) f4 he0)
    have L5 : LayM p t x b e [] (mup (mup M4 e (.dk [])) x (.ins 16 (LFs p t b e []))) := ⟨mup_at, by rw [mup_off nbx, mup_off (Ne.symm neb)]; exact b4, by rw [mup_off nex]; exact mup_at, Ne.symm neb, List.nodup_nil, by simp⟩
    generalize (mup (mup M4 e (.dk [])) x (.ins 16 (LFs p t b e []))) = M5 at f5 L5 ⊢
    have ep : (encPs t.parts).length = t.parts.length := by unfold encPs; rw [List.length_map]
    simp only [evs_, c_Laid_ini_6, ep]
    refine ⟨by omega, by omega, for_range (fun i σ M' => (∃ y, σ = [some (.ref x), some (encP p), some (encT t), y, some (.tup (encPs t.parts)), some (.tup (t.stands.map W.int)), none, none, none, none]) ∧ (∃ os, LayM p t x b e os M' ∧ ∀ j, j < i → j ∈ os) ∧ Fx1 x M M') ⟨⟨_, rfl⟩, ⟨[], L5, fun j hj => absurd hj (Nat.not_lt_zero j)⟩, f5⟩ (fun i σ M' K hi h hK => ?_) (fun σ M' h => ?_)⟩
    · obtain ⟨⟨y, rfl⟩, ⟨os, L, hos⟩, f6⟩ := h
      simp only [evs_, c_Laid_ini_10, ins_ins L.hx, Prod.mk.injEq, mn_lay, m_Laid_lay, dn]
      refine ⟨laid_nm5, x, b, e, p, t, os, i, rfl, L, pok, ok, hi, by have := t.ups_len i; omega, fun os' h1 h2 h3 h4 => hK _ _ ⟨⟨_, rfl⟩, ⟨os', h4, fun j hj => ?_⟩, fx1_put (fx1_put f6 hb0) he0⟩⟩
      by_cases hji : j = i
      · rw [hji]; exact h1
      · exact h2 j (hos j (by omega))
    · obtain ⟨⟨y, rfl⟩, ⟨os, L, hos⟩, f6⟩ := h
      simp only [evs_, c_Laid_ini_7]
      intro po hpo
      have npx : po ≠ x := fun z => by rw [z, L.hx] at hpo; cases hpo
      have npb : po ≠ b := fun z => by rw [z, L.hb] at hpo; cases hpo
      have npe : po ≠ e := fun z => by rw [z, L.he] at hpo; cases hpo
      have hpo0 := f6.fresh hpo npx
      refine ⟨_, _, by rw [mup_off (Ne.symm npx)]; exact L.hx, (by show (5 : Nat) < 1000; decide), ?_⟩
      simp only [evs_, c_Laid_ini_8]
      intro fi hfi
      have M7x : (mup (mup M' po (.dk [])) x (.ins 16 (putW "part_of" (.ref po) (LFs p t b e [])))) x = some (.ins 16 _) := mup_at
      have f7 : Fx1 x M (mup (mup M' po (.dk [])) x (.ins 16 (putW "part_of" (.ref po) (LFs p t b e [])))) := fx1_self (fx1_put f6 hpo0)
      have b7 : (mup (mup M' po (.dk [])) x (.ins 16 (putW "part_of" (.ref po) (LFs p t b e [])))) b = some (.dk (dN_ (t.beg (szs p)) os)) := by rw [mup_off nbx, mup_off (Ne.symm npb)]; exact L.hb
      have e7 : (mup (mup M' po (.dk [])) x (.ins 16 (putW "part_of" (.ref po) (LFs p t b e [])))) e = some (.dk (dN_ (t.fin (szs p)) os)) := by rw [mup_off nex, mup_off (Ne.symm npe)]; exact L.he
      have p7 : (mup (mup M' po (.dk [])) x (.ins 16 (putW "part_of" (.ref po) (LFs p t b e [])))) po = some (.dk []) := by rw [mup_off npx]; exact mup_at
      generalize (mup (mup M' po (.dk [])) x (.ins 16 (putW "part_of" (.ref po) (LFs p t b e [])))) = M7 at hfi M7x f7 b7 e7 p7 ⊢
      have nfx : fi ≠ x := fun z => by rw [z, M7x] at hfi; cases hfi
      have nfb : fi ≠ b := fun z => by rw [z, b7] at hfi; cases hfi
      have nfe : fi ≠ e := fun z => by rw [z, e7] at hfi; cases hfi
      have nfp : fi ≠ po := fun z => by rw [z, p7] at hfi; cases hfi
      have hfi0 := f7.fresh hfi nfx
      refine ⟨_, _, by rw [mup_off (Ne.symm nfx)]; exact M7x, (by show (6 : Nat) < 1000; decide), ?_⟩
      have e8 : putW "first" (.ref fi) (putW "part_of" (.ref po) (LFs p t b e [])) = LFs p t b e [("part_of", .ref po), ("first", .ref fi)] := rfl
      rw [e8]
      have f8 := fx1_self (o := .ins 16 (LFs p t b e [("part_of", .ref po), ("first", .ref fi)])) (fx1_put (o := .dk []) f7 hfi0)
      have L8 : LaidI p t x b e po fi os [] (mup (mup M7 fi (.dk [])) x (.ins 16 (LFs p t b e [("part_of", .ref po), ("first", .ref fi)]))) :=
        ⟨mup_at, by rw [mup_off nbx, mup_off (Ne.symm nfb)]; exact b7, by rw [mup_off nex, mup_off (Ne.symm nfe)]; exact e7, by rw [mup_off npx, mup_off (Ne.symm nfp)]; exact p7, by rw [mup_off nfx]; exact mup_at, neb, Ne.symm npe, Ne.symm nfe, Ne.symm npb, Ne.symm nfb, Ne.symm nfp, L.lt, hos, L.nd⟩
      generalize (mup (mup M7 fi (.dk [])) x (.ins 16 (LFs p t b e [("part_of", .ref po), ("first", .ref fi)]))) = M8 at f8 L8 ⊢
      simp only [evs_, c_Laid_ini_9, ep]
      refine ⟨by omega, by omega, for_range (fun i σ M' => (∃ y z u, σ = [some (.ref x), some (encP p), some (encT t), y, some (.tup (encPs t.parts)), some (.tup (t.stands.map W.int)), z, u, none, none]) ∧ LaidI p t x b e po fi os (t.parts.take i).flatten M' ∧ Fx1 x M M') ⟨⟨_, _, _, rfl⟩, L8, f8⟩ (fun i σ M' K hi h hK => ?_) (fun σ M' h => ?_)⟩
      · obtain ⟨⟨y, z, u, rfl⟩, L9, f9⟩ := h
        have hio := hos i hi
        simp only [evs_, c_Laid_ini_11, fld_ins L9.hx, lf_begins, dlook_refN L9.hb, hio, if_true, c_Laid_ini_12, part_at hi]
        refine for_inv (fun j σ M' => (∃ u, σ = [some (.ref x), some (encP p), some (encT t), some (.int i), some (.tup (encPs t.parts)), some (.tup (t.stands.map W.int)), some (.int ((t.beg (szs p) i + (((t.part i).take j).map (sizeOf' (szs p))).sum : Nat) : Int)), u, none, none]) ∧ LaidI p t x b e po fi os ((t.parts.take i).flatten ++ (t.part i).take j) M' ∧ Fx1 x M M') (fun _ _ _ _ => trivial) _ 0 ⟨⟨u, ?_⟩, ?_, f9⟩ (fun j w σ M' K2 hw h hK2 => ?_) (fun σ M' h => ?_)
        · rfl
        · rw [List.take_zero, List.append_nil]; exact L9
        · obtain ⟨⟨u, rfl⟩, L10, f10⟩ := h
          rw [Nat.zero_add] at L10 hK2 ⊢
          unfold wInts at hw
          rw [List.getElem?_map] at hw
          cases hj : (t.part i)[j]? with
          | none => rw [hj] at hw; cases hw
          | some f =>
          rw [hj] at hw
          cases hw
          have hfm : f ∈ t.part i := List.mem_of_getElem? hj
          have hfp := ok.part_lt hi hfm
          have hpof : t.pof f = i := ok.pof_eq (part_get hi) hfm
          have hcell : t.cell (szs p) f = t.beg (szs p) i + (((t.part i).take j).map (sizeOf' (szs p))).sum := by
            unfold Tr.cell
            rw [hpof, takeW (ok.nodup (part_mem hi)) hj]
          have htk : (t.part i).take (j + 1) = (t.part i).take j ++ [f] := by rw [List.take_succ, hj]; rfl
          have nd1 := ok.one.sublist (flat_sub (j := j + 1) hi)
          rw [htk, ← List.append_assoc] at nd1
          have hnf : f ∉ (t.parts.take i).flatten ++ (t.part i).take j := fun z => (List.nodup_append.mp nd1).2.2 f z f (by simp) rfl
          have hlen : ((t.parts.take i).flatten ++ (t.part i).take j).length ≤ 8 := Nat.le_trans (nodup_len p.length (ok.one.sublist (flat_sub hi)) fun g hg => by
            obtain ⟨q', h1, h2⟩ := List.mem_flatten.mp ((flat_sub hi).subset hg)
            exact (ok.all g).mpr ⟨q', h1, h2⟩) h8
          simp only [evs_, c_Laid_ini_13, fld_ins L10.hx, lf_part_of]
          refine dput_N L10.hpo hnf (by rw [hpof]) (by omega) ?_
          have nxp : x ≠ po := ne_ob L10.hx L10.hpo (by simp)
          have nxf : x ≠ fi := ne_ob L10.hx L10.hfi (by simp)
          have x11 : (mup M' po (.dk (dN_ t.pof ((t.parts.take i).flatten ++ (t.part i).take j ++ [f])))) x = some (.ins 16 (LFs p t b e [("part_of", .ref po), ("first", .ref fi)])) := by rw [mup_off nxp]; exact L10.hx
          have i11 : (mup M' po (.dk (dN_ t.pof ((t.parts.take i).flatten ++ (t.part i).take j ++ [f])))) fi = some (.dk (dN_ (t.cell (szs p)) ((t.parts.take i).flatten ++ (t.part i).take j))) := by rw [mup_off (Ne.symm L10.npf)]; exact L10.hfi
          simp only [evs_, c_Laid_ini_14, fld_ins x11, lf_first]
          refine dput_N i11 hnf (by rw [hcell]; omega) (by omega) ?_
          have x12 : (mup (mup M' po (.dk (dN_ t.pof ((t.parts.take i).flatten ++ (t.part i).take j ++ [f])))) fi (.dk (dN_ (t.cell (szs p)) ((t.parts.take i).flatten ++ (t.part i).take j ++ [f])))) x = some (.ins 16 (LFs p t b e [("part_of", .ref po), ("first", .ref fi)])) := by rw [mup_off nxf]; exact x11
          simp only [evs_, c_Laid_ini_15, fld_ins x12, lf_sizes, size_at hfp]
          refine hK2 _ _ ⟨⟨some (.int f), ?_⟩, ?_, fx1_put (fx1_put f10 hpo0) hfi0⟩
          · rw [htk, List.map_append, List.sum_append]
            simp
            omega
          · rw [htk, ← List.append_assoc]
            exact ⟨x12, by rw [mup_off L10.nbf, mup_off L10.nbp]; exact L10.hb, by rw [mup_off L10.nfi, mup_off L10.npo]; exact L10.he, by rw [mup_off L10.npf]; exact mup_at, mup_at, L10.nb, L10.npo, L10.nfi, L10.nbp, L10.nbf, L10.npf, L10.lt, L10.all, L10.nd⟩
        · obtain ⟨⟨u, rfl⟩, L10, f10⟩ := h
          refine hK _ _ ⟨⟨_, _, _, rfl⟩, ?_, f10⟩
          rw [Nat.zero_add, wInts_len, List.take_length] at L10
          rw [List.take_succ, part_get hi]
          simpa using L10
      · obtain ⟨⟨y, z, u, rfl⟩, L9, f9⟩ := h
        rw [List.take_length] at L9
        exact q b e po fi os M' hb0 he0 hpo0 hfi0 L9 f9
end WL
namespace WL
open PySem L2
local macro_rules | `(tactic| simp only [evs_, $xs,*]) => `(tactic| simp only [dX, dXs, dXo, dXi, dSc, d2, d1, dN, dVar, dC, dTup, dLst, dTru, dB, dChain, dIte, dNotV, dNotT, dJoinV, dJoinT, dNil, dCons, dCall, dBM, dIsi, dIsi2, dAttr, dMeth, dNew, dDget, dDin, dDnew, dKidx, dKin, dKget, dDisp, dFrz, dRev, dLrg, dSset, dSlice, dNoPart, dPart, dDfz, dRaise, dTry, dCatch, dKind, isx_eq, xfl_eq, dIsc, Gam.low, dAsg, dExpr, dRet, dIf, dFld, dSet, dDput, dNever, dFor, dNext, binP, cmpP, iSeqD, iRg1, iRg2, iZip, iEnumD, Tg.asg, setAll, List.set, List.map_cons, List.map_nil, subW, modW, fdivW, powW, ltW, leW, gtW, geW, newL, finD, frzO, tupW, listW, oneW, twoW, BI.w, ints_eq, add_int, add_str, add_tup, add_lst, mul_int, mul_lst, mul_tup, idx_tup, idx_lst, idx_scr, idx_str, len_tup, len_lst, len_scr, len_str, sl_tup, sl_lst, neg_int, str_int, str_str, int_int, int_bl, is_non, is_int, is_str, is_tup, is_lst, is_bl, is_bb, dss_cons, eq_int, eq_str, eq_bl, ne_int, ne_str, ne_bl, eq_nilL, ty_non, ty_bl, ty_int, ty_str, ty_tup, ty_lst, ty_scr, ty_dk, Ty.sub, tr_bl, tr_non, tr_int, tr_str, sv_lst, sv_tup, sv_scr, lv_lst, at0, at1, at2, cut1, len0, ss_nil, for_nil, for_cons, pairs_cons, pairs_nil, pairs_nil', walk_lst, walk_scr, walk_tup, walk_str, walk_ref, List.getElem?_cons_zero, List.getElem?_cons_succ, List.length_cons, List.length_nil, List.append_nil, List.cons_append, List.nil_append, Option.some.injEq, W.int.injEq, W.str.injEq, W.bl.injEq, W.tup.injEq, W.lst.injEq, W.ref.injEq, List.cons.injEq, Option.map_some, exists_and_left, exists_and_right, exists_eq_left, exists_eq_left', exists_eq, exists_eq', exists_eq_right, exists_eq_right', and_true, true_and, and_assoc, reduceIte, reduceCtorEq, decide_true, decide_false, decide_eq_true_eq, decide_eq_false_iff_not, Bool.not_eq_true', Bool.not_eq_false', Bool.true_eq_false, Bool.false_eq_true, if_true, if_false, Bool.not_true, Bool.not_false, ite_true, ite_false, Int.cast_ofNat_Int, Int.reduceAdd, Int.reduceSub, Int.reduceEq, Int.reduceLT, Int.reduceLE, Int.natCast_add, Nat.reduceEqDiff, Nat.reduceAdd, Nat.add_zero, Nat.zero_add, Nat.succ_ne_zero, not_true_eq_false, not_false_eq_true, Option.getD_some, Option.getD_none, Option.isSome_some, Option.isSome_none, $xs,*])
theorem while_inv {t : DT} {body : DS} {D : Dw} (I : Nat → Sw → Mh → Prop) (h : ∀ m σ M (K : QS), I m σ M → (∀ m' σ' M', m' < m → I m' σ' M' → K σ' M') → t σ M (fun b M1 => if b = true then body { nx := K, rt := D.rt, bk := D.nx, ct := K, ex := D.ex } σ M1 else D.nx σ M1) D.ex) {m : Nat} {σ : Sw} {M : Mh} (h0 : I m σ M) : dWhile t body D σ M := by
  have key : ∀ n m σ M, m < n → I m σ M → whileW t body n D σ M := by
    intro n
    induction n with
    | zero => intro m σ M hm; omega
    | succ n ih =>
      intro m σ M hm hI
      exact h m σ M _ hI fun m' σ' M' hm' hI' => ih m' σ' M' (by omega) hI'
  exact ⟨m + 1, key _ _ _ _ (Nat.lt_succ_self m) h0⟩
structure Os (t : Tr) (os : List Nat) : Prop where
  lt : ∀ i ∈ os, i < t.parts.length
  all : ∀ i, i < t.parts.length → i ∈ os
  nd : os.Nodup
def laidNs : List Str := ["sizes", "parts", "stands", "begins", "ends", "part_of", "first"]
def laidW (p : List (Nat × Bd)) (t : Tr) (os : List Nat) (e : Addr) : W := .obj 16 laidNs [.lst (wInts (szs p)), .tup (encPs t.parts), .tup (t.stands.map W.int), fzN (t.beg (szs p)) os, .ref e, fzN t.pof t.parts.flatten, fzN (t.cell (szs p)) t.parts.flatten]
theorem frz_N {M : Mh} {a : Addr} {g : Nat → Nat} {l : List Nat} (h : M a = some (.dk (dN_ g l))) : Frz M (.ref a) (fzN g l) [a] := by
  have e1 : (dN_ g l).map (·.1) = l.map kN := by unfold dN_; rw [List.map_map]; rfl
  have e2 : (dN_ g l).map (·.2) = l.map fun i => W.int (g i) := by unfold dN_; rw [List.map_map]; rfl
  have : Frz M (.ref a) (.dk (l.map kN) ((dN_ g l).map (·.2))) [a] := .dk h e1.symm .keep
  rw [e2] at this
  exact this
theorem use_laid {k : Nat} {p : List (Nat × Bd)} {t : Tr} {M : Mh} {Q : QW} {Ex : QX} (pok : PrOk p) (ok : t.Ok p.length) (hk : 9 ≤ k) (q : ∀ os e M2, Os t os → M2 e = some (.dk (dN_ (t.fin (szs p)) os)) → Sub M M2 → Q (laidW p t os e) M2) :
    ∀ x, M x = none → sp_Laid_ini k [.ref x, encP p, encT t] (mup M x (.ins 16 [])) (fun v M2 => v = .non ∧ insQ true 16 x M2 (fun w M1 => dfzW w M1 Q)) Ex := fun x hx => by
  refine ⟨x, p, t, rfl, mup_at, pok, ok, hk, fun b e po fi os M' b0 e0 po0 fi0 L fx => ⟨rfl, ?_⟩⟩
  have fr : ∀ c o, M c = some o → M' c = some o := fun c o hc => by
    have hn : c ≠ x := fun z => by rw [z, hx] at hc; cases hc
    exact fx c o (by rw [mup_off hn]; exact hc) hn
  have nex : e ≠ x := ne_ob L.he L.hx (by simp)
  refine ⟨laidW p t os e, _, .ins L.hx rfl (.cons .keep (.cons .keep (.cons .keep (.cons (frz_N L.hb) (.cons .keep (.cons (frz_N L.hpo) (.cons (frz_N L.hfi) .nil)))))))  , q os e _ ⟨L.lt, L.all, L.nd⟩ ?_ ?_⟩
  · unfold mdelL
    rw [if_neg]
    · exact L.he
    · simp [nex, L.nb, L.npo, L.nfi]
  · intro c o hc
    have no : ∀ {d : Addr}, mup M x (.ins 16 []) d = none → c ≠ d := fun {d} h z => by
      rw [← z] at h
      by_cases hd : c = x
      · rw [hd, mup_at] at h; cases h
      · rw [mup_off hd, hc] at h; cases h
    have nx : c ≠ x := fun z => by rw [z, hx] at hc; cases hc
    unfold mdelL
    rw [if_neg]
    · exact fr c o hc
    · simp [nx, no b0, no po0, no fi0]
theorem lw_sizes {p : List (Nat × Bd)} {t : Tr} {os : List Nat} {e : Addr} {M : Mh} : fldW M (laidW p t os e) "sizes" = some (.lst (wInts (szs p))) := rfl
theorem lw_parts {p : List (Nat × Bd)} {t : Tr} {os : List Nat} {e : Addr} {M : Mh} : fldW M (laidW p t os e) "parts" = some (.tup (encPs t.parts)) := rfl
theorem lw_stands {p : List (Nat × Bd)} {t : Tr} {os : List Nat} {e : Addr} {M : Mh} : fldW M (laidW p t os e) "stands" = some (.tup (t.stands.map W.int)) := rfl
theorem lw_ends {p : List (Nat × Bd)} {t : Tr} {os : List Nat} {e : Addr} {M : Mh} : fldW M (laidW p t os e) "ends" = some (.ref e) := rfl
theorem lw_part_of {p : List (Nat × Bd)} {t : Tr} {os : List Nat} {e : Addr} {M : Mh} : fldW M (laidW p t os e) "part_of" = some (fzN t.pof t.parts.flatten) := rfl
theorem lw_first {p : List (Nat × Bd)} {t : Tr} {os : List Nat} {e : Addr} {M : Mh} : fldW M (laidW p t os e) "first" = some (fzN (t.cell (szs p)) t.parts.flatten) := rfl
theorem lw_ins {p : List (Nat × Bd)} {t : Tr} {os : List Nat} {e : Addr} {M : Mh} : insW M (laidW p t os e) = some (16, laidNs) := rfl
theorem Tr.Ok.in_flat {m : Nat} {t : Tr} (ok : t.Ok m) {f : Nat} (hf : f < m) : f ∈ t.parts.flatten := by
  obtain ⟨q, h1, h2⟩ := (ok.all f).mp hf
  exact List.mem_flatten.mpr ⟨q, h1, h2⟩
def sp_Laid_down : Nat → Wp := fun _ ws M Q _ => ∃ (p : List (Nat × Bd)) (t : Tr) (os : List Nat) (e : Addr) (f : Nat), ws = [laidW p t os e, .int f] ∧ p.length ≤ 8 ∧ t.Ok p.length ∧ f < p.length ∧ ∀ L, M L = none → Q (.ref L) (mup M L (.lst (wInts (t.down (t.pof f)))))
theorem fg_ret {M : Mh} {L R : Addr} {u o : MO} {Q : QW} (hL : M L = none) (hR : mup M L u R = none) (q : ∀ R, M R = none → Q (.ref R) (mup M R o)) : fgQ Q (.ref R) (mup (mup M L u) R o) := by
  have nR : R ≠ L := fun z => by rw [z, mup_at] at hR; cases hR
  have hR0 : M R = none := by rw [mup_off nR] at hR; exact hR
  refine ⟨mup M R o, fun c v hc => ?_, q R hR0⟩
  by_cases h : c = R
  · rw [h, mup_at] at hc ⊢; exact hc
  · rw [mup_off h] at hc ⊢
    rw [mup_off (fun z => by rw [z, hL] at hc; cases hc)]
    exact hc
theorem wInts_rev {l : List Nat} : (wInts l).reverse = wInts l.reverse := by unfold wInts; rw [List.map_reverse]
theorem keep_Laid_down {Γ : Gam} {k : Nat} : KeepG Γ n_Laid_down 2 c_Laid_down (sp_Laid_down k) := by
  rintro ws M Q Ex ⟨p, t, os, e, f, rfl, h8, ok, hf, q⟩
  refine ⟨rfl, ?_⟩
  show dSs Γ _ _ [some (laidW p t os e), some (.int f), none, none] M
  have hfl := ok.in_flat hf
  have hp := ok.pof_lt hf
  have hl8 := ok.len_le
  simp only [evs_, c_Laid_down, c_Laid_down_1, c_Laid_down_2, lw_part_of, dlook_fzN, hfl, if_true]
  intro L hL
  refine while_inv (fun m σ M' => ∃ (i : Int) (acc : List Nat), σ = [some (laidW p t os e), some (.int f), some (.ref L), some (.int i)] ∧ M' = mup M L (.lst (wInts acc)) ∧ acc.length + m ≤ 8 ∧
    ((i < 0 ∧ m = 0 ∧ acc = t.ups (t.pof f)) ∨ ∃ j : Nat, i = j ∧ j < t.parts.length ∧ m = (t.ups j).length ∧ acc ++ t.ups j = t.ups (t.pof f))) (fun m σ M' K h hK => ?_) (m := (t.ups (t.pof f)).length) ⟨_, [], rfl, rfl, by have := t.ups_len (t.pof f); simp; omega, .inr ⟨_, rfl, hp, rfl, rfl⟩⟩
  obtain ⟨i, acc, rfl, rfl, hacc, h⟩ := h
  rcases h with ⟨hi, rfl, ha⟩ | ⟨j, rfl, hj, rfl, ha⟩
  · have hn : ¬ (0 ≤ i) := by omega
    simp only [evs_, ge_iff_le, hn, if_false, c_Laid_down_3, lv_ref mup_at]
    intro R hR
    subst ha
    rw [wInts_rev]
    exact fg_ret hL hR q
  · simp only [evs_, ge_iff_le, Int.natCast_nonneg, if_true, c_Laid_down_4, BM.recv, BM.w, cls_app, app_mup, recv_mup]
    have hj8 : j < t.stands.length := by have := ok.len; omega
    have hu := ok.ups hj
    simp only [evs_, c_Laid_down_5, lw_stands, st_at hj8]
    refine ⟨⟨_, mup_at⟩, szl (by rw [wInts_len]; omega), ?_⟩
    by_cases h0 : 0 ≤ t.st j
    · obtain ⟨i, ei⟩ := Int.eq_ofNat_of_zero_le h0
      rw [if_pos h0] at hu
      have hlt := ok.st_lt h0
      rw [ei] at hu hlt ⊢
      have hu : t.ups j = j :: t.ups i := hu
      refine hK (t.ups i).length _ _ (by rw [hu]; simp) ⟨_, acc ++ [j], rfl, ?_, by rw [hu] at hacc; simp at hacc ⊢; omega, .inr ⟨i, rfl, hlt, rfl, by rw [List.append_assoc]; rw [hu] at ha; exact ha⟩⟩
      rw [← wInts_app]; rfl
    · rw [if_neg h0] at hu
      refine hK 0 _ _ (by rw [hu]; simp) ⟨_, acc ++ [j], rfl, ?_, by rw [hu] at hacc; simp at hacc ⊢; omega, .inl ⟨by omega, rfl, by rw [hu] at ha; exact ha⟩⟩
      rw [← wInts_app]; rfl
def sp_Laid_wanted : Nat → Wp := fun _ ws M Q _ => ∃ (p : List (Nat × Bd)) (t : Tr) (os : List Nat) (e : Addr), ws = [laidW p t os e] ∧ p.length ≤ 8 ∧ 0 < p.length ∧ t.Ok p.length ∧ Os t os ∧ M e = some (.dk (dN_ (t.fin (szs p)) os)) ∧ Q (.int (t.want (szs p) : Nat)) M
theorem keep_Laid_wanted {Γ : Gam} {k : Nat} : KeepC Γ n_Laid_wanted 1 c_Laid_wanted (sp_Laid_wanted k) := by
  rintro ws M Q Ex ⟨p, t, os, e, rfl, h8, h0, ok, hos, he, q⟩
  refine ⟨rfl, ?_⟩
  show dSs Γ _ _ [some (laidW p t os e), none] M
  have hl8 := ok.len_le
  have hlen : os.length ≤ 8 := Nat.le_trans (nodup_len _ hos.nd hos.lt) (by omega)
  simp only [evs_, c_Laid_wanted, dLock, dLc, wipeW, iKeysD, lw_ends]
  have hx : (dN_ (t.fin (szs p)) os).map (fun p => keyW p.1) = (os.map fun i : Nat => (W.int i, some (W.int (t.fin (szs p) i : Nat)))).map (·.1) := by
    unfold dN_; rw [List.map_map, List.map_map]; rfl
  refine ⟨e, _, he, _, rfl, _, mup_at, _, rfl, szl (by unfold dN_; simp; omega), fun D hD => ?_⟩
  have nD : e ≠ D := fun z => by rw [← z, mup_at] at hD; cases hD
  refine ⟨by rw [mup_off nD, mup_at], ?_⟩
  show lcW false _ _ _ _ D _ ((dN_ (t.fin (szs p)) os).map (fun p => keyW p.1)) _ _ _
  rw [hx]
  refine lc_pairs hD (fun acc => by rw [mup_off nD, mup_at]) _ [] (fun pr hp us => ?_) ?_
  · obtain ⟨i, hi, rfl⟩ := List.mem_map.mp hp
    refine ⟨_, rfl, fun R h => h, fun y hy R h => ?_⟩
    cases hy
    have hl : mup (mup M e (.lk (dN_ (t.fin (szs p)) os))) D (.lst us) e = some (.lk (dN_ (t.fin (szs p)) os)) := by rw [mup_off nD, mup_at]
    simp only [evs_, lw_ends, dlook_lkN hl, hi, if_true]
    exact h
  · rw [List.nil_append, fm_some]
    refine fin_pure hD ⟨mup_at, ?_⟩
    rw [mup_mup, mup_self he]
    have hmx : (os.map fun i => W.int (t.fin (szs p) i : Nat)) = (os.map fun i => ((t.fin (szs p) i : Nat) : Int)).map W.int := by rw [List.map_map]; rfl
    rw [hmx]
    have hne : 0 < os.length := by
      have h1 := ok.pos h0
      exact List.length_pos_of_mem (hos.all 0 h1)
    refine ⟨_, show _ = _ from rfl, by rw [List.length_map]; exact hne, fun m hm hall => ?_⟩
    obtain ⟨i, hi, rfl⟩ := List.mem_map.mp hm
    have e1 : t.fin (szs p) i = t.want (szs p) := by
      unfold Tr.want
      refine max_is (List.mem_map_of_mem (List.mem_range.mpr (hos.lt i hi))) fun y hy => ?_
      obtain ⟨j, hj, rfl⟩ := List.mem_map.mp hy
      have := hall _ (List.mem_map_of_mem (hos.all j (List.mem_range.mp hj)))
      omega
    rw [e1]
    exact q
def sp_places : Nat → Wp := fun k ws M Q _ => ∃ (p : List (Nat × Bd)) (t : Tr), ws = [encP p, encT t] ∧ PrOk p ∧ t.Ok p.length ∧ 12 ≤ k ∧ ∀ L, M L = none → Q (.ref L) (mup M L (.lst (wInts ((List.range p.length).map (t.cell (szs p))))))
theorem sub_none {M M' : Mh} (h : Sub M M') {a : Addr} (ha : M' a = none) : M a = none := by
  cases e : M a with
  | none => rfl
  | some o => rw [h a o e] at ha; cases ha
theorem fg_new {M M' : Mh} {R : Addr} {o : MO} {Q : QW} (h : Sub M M') (hR : M' R = none) (q : ∀ R, M R = none → Q (.ref R) (mup M R o)) : fgQ Q (.ref R) (mup M' R o) := by
  refine ⟨mup M R o, fun c v hc => ?_, q R (sub_none h hR)⟩
  by_cases hcR : c = R
  · rw [hcR, mup_at] at hc ⊢; exact hc
  · rw [mup_off hcR] at hc ⊢
    exact h c v hc
theorem keep_places {Γ : Gam} {k : Nat} (f_need_tree : Γ.fn 18 = dn sp_need_tree k) (i_Laid : Γ.ini 16 = dn2 sp_Laid_ini k) : KeepG Γ n_places 2 c_places (sp_places k) := by
  rintro ws M Q Ex ⟨p, t, rfl, pok, ok, hk, q⟩
  refine ⟨rfl, ?_⟩
  show dSs Γ _ _ [some (encP p), some (encT t), none, none] M
  have h8 := pok.l8
  obtain ⟨k, rfl⟩ : ∃ j, k = j + 12 := ⟨k - 12, by omega⟩
  simp only [evs_, c_places, f_need_tree, i_Laid, dn]
  refine ⟨p, t, rfl, pok, ok, by omega, ?_⟩
  simp only [evs_, c_places_1, f_need_tree, i_Laid, dn, dn2]
  refine use_laid (k := k + 10) pok ok (by omega) fun os e M2 hos he hs => ?_
  simp only [evs_, c_places_2, dLc, wipeW, encP, List.length_map]
  refine ⟨by omega, by omega, by rw [rangeL_len]; exact szl (by omega), fun D hD => ?_⟩
  have hx : rangeL 0 (p.length : Int) = ((List.range p.length).map fun i : Nat => (W.int i, some (W.int (t.cell (szs p) i : Nat)))).map (·.1) := by
    rw [rangeL_natI, ← wInts_eq]; unfold wInts; rw [List.map_map]; rfl
  rw [hx]
  refine lc_pairs hD (fun _ => trivial) _ [] (fun pr hp us => ?_) ?_
  · obtain ⟨i, hi, rfl⟩ := List.mem_map.mp hp
    refine ⟨_, rfl, fun R h => h, fun y hy R h => ?_⟩
    cases hy
    simp only [evs_, lw_first, dlook_fzN, ok.in_flat (List.mem_range.mp hi), if_true]
    exact h
  · rw [List.nil_append, fm_some]
    refine ⟨mup_at, ?_⟩
    have e1 : ((List.range p.length).map fun i => W.int (t.cell (szs p) i : Nat)) = wInts ((List.range p.length).map (t.cell (szs p))) := by unfold wInts; rw [List.map_map]; rfl
    rw [e1]
    exact fg_new hs hD q
def sp_wanted : Nat → Wp := fun k ws M Q _ => ∃ (p : List (Nat × Bd)) (t : Tr), ws = [encP p, encT t] ∧ PrOk p ∧ t.Ok p.length ∧ 12 ≤ k ∧ Q (.int (t.want (szs p) : Nat)) M
theorem keep_wanted {Γ : Gam} {k : Nat} (f_need_tree : Γ.fn 18 = dn sp_need_tree k) (mn_wanted : Γ.meN 8 = "wanted") (m_Laid_wanted : Γ.me 16 8 = some (dn sp_Laid_wanted k)) (i_Laid : Γ.ini 16 = dn2 sp_Laid_ini k) : KeepG Γ n_wanted 2 c_wanted (sp_wanted k) := by
  rintro ws M Q Ex ⟨p, t, rfl, pok, ok, hk, q⟩
  refine ⟨rfl, ?_⟩
  show dSs Γ _ _ [some (encP p), some (encT t)] M
  obtain ⟨k, rfl⟩ : ∃ j, k = j + 12 := ⟨k - 12, by omega⟩
  simp only [evs_, c_wanted, f_need_tree, mn_wanted, m_Laid_wanted, i_Laid, dn]
  refine ⟨p, t, rfl, pok, ok, by omega, ?_⟩
  simp only [evs_, c_wanted_1, f_need_tree, mn_wanted, m_Laid_wanted, i_Laid, dn, dn2]
  refine use_laid (k := k + 10) pok ok (by omega) fun os e M2 hos he hs => ?_
  simp only [evs_, lw_ins, Prod.mk.injEq, f_need_tree, mn_wanted, m_Laid_wanted, i_Laid, dn]
  refine ⟨laid_nm _ (by simp), p, t, os, e, rfl, pok.l8, pok.l1, ok, hos, he, M, hs, q⟩
def sp_way_down : Nat → Wp := fun k ws M Q _ => ∃ (p : List (Nat × Bd)) (t : Tr) (f : Nat), ws = [encP p, encT t, .int f] ∧ PrOk p ∧ t.Ok p.length ∧ f < p.length ∧ 12 ≤ k ∧ ∀ L, M L = none → Q (.ref L) (mup M L (.lst (wInts (t.down (t.pof f)))))
theorem keep_way_down {Γ : Gam} {k : Nat} (f_need_tree : Γ.fn 18 = dn sp_need_tree k) (f_need_function : Γ.fn 19 = dn sp_need_function k) (mn_down : Γ.meN 7 = "down") (m_Laid_down : Γ.me 16 7 = some (dn sp_Laid_down k)) (i_Laid : Γ.ini 16 = dn2 sp_Laid_ini k) : KeepG Γ n_way_down 3 c_way_down (sp_way_down k) := by
  rintro ws M Q Ex ⟨p, t, f, rfl, pok, ok, hf, hk, q⟩
  refine ⟨rfl, ?_⟩
  show dSs Γ _ _ [some (encP p), some (encT t), some (.int f)] M
  obtain ⟨k, rfl⟩ : ∃ j, k = j + 12 := ⟨k - 12, by omega⟩
  simp only [evs_, c_way_down, f_need_tree, f_need_function, mn_down, m_Laid_down, i_Laid, dn]
  refine ⟨p, t, rfl, pok, ok, by omega, ?_⟩
  simp only [evs_, c_way_down_1, f_need_tree, f_need_function, mn_down, m_Laid_down, i_Laid, dn]
  refine ⟨p, f, rfl, hf, by omega, ?_⟩
  simp only [evs_, c_way_down_2, f_need_tree, f_need_function, mn_down, m_Laid_down, i_Laid, dn, dn2]
  refine use_laid (k := k + 10) pok ok (by omega) fun os e M2 hos he hs => ?_
  simp only [evs_, lw_ins, Prod.mk.injEq, f_need_tree, f_need_function, mn_down, m_Laid_down, i_Laid, dn]
  refine ⟨laid_nm _ (by simp), p, t, os, e, f, rfl, pok.l8, ok, hf, fun L hL => fg_new hs hL q⟩
end WL
namespace WL
open PySem L2
structure PartI (i : Nat) (qs : List (List Nat)) : Prop where
  ne : ∀ q ∈ qs, q ≠ []
  inc : ∀ q ∈ qs, q.Pairwise (· < ·)
  all : ∀ f, f < i ↔ ∃ q ∈ qs, f ∈ q
  one : ∀ (a b : Nat) (q q' : List Nat) (f : Nat), qs[a]? = some q → qs[b]? = some q' → f ∈ q → f ∈ q' → a = b
  fst : (qs.map fun q => q.headD 0).Pairwise (· < ·)
theorem PartI.nil : PartI 0 [] := ⟨by simp, by simp, by simp, by simp, by simp⟩
theorem PartI.lt {i : Nat} {qs : List (List Nat)} (h : PartI i qs) {q : List Nat} (hq : q ∈ qs) {f : Nat} (hf : f ∈ q) : f < i := (h.all f).mpr ⟨q, hq, hf⟩
theorem PartI.new {i : Nat} {qs : List (List Nat)} (h : PartI i qs) : PartI (i + 1) (qs ++ [[i]]) := by
  refine ⟨fun q hq => ?_, fun q hq => ?_, fun f => ?_, fun a b q q' f ha hb fa fb => ?_, ?_⟩
  · rcases List.mem_append.mp hq with z | z
    · exact h.ne q z
    · rw [List.mem_singleton.mp z]; simp
  · rcases List.mem_append.mp hq with z | z
    · exact h.inc q z
    · rw [List.mem_singleton.mp z]; simp
  · constructor
    · intro hf
      by_cases e : f = i
      · exact ⟨[i], by simp, by simp [e]⟩
      · obtain ⟨q, h1, h2⟩ := (h.all f).mp (by omega)
        exact ⟨q, List.mem_append_left _ h1, h2⟩
    · rintro ⟨q, h1, h2⟩
      rcases List.mem_append.mp h1 with z | z
      · have := h.lt z h2; omega
      · rw [List.mem_singleton.mp z] at h2
        have := List.mem_singleton.mp h2
        omega
  · have key : ∀ {a : Nat} {q : List Nat}, (qs ++ [[i]])[a]? = some q → (a < qs.length ∧ qs[a]? = some q) ∨ (a = qs.length ∧ q = [i]) := fun {a q} ha => by
      by_cases hl : a < qs.length
      · rw [List.getElem?_append_left hl] at ha; exact .inl ⟨hl, ha⟩
      · rw [List.getElem?_append_right (by omega)] at ha
        have hx := (List.getElem?_eq_some_iff.mp ha).1
        simp at hx
        have : a = qs.length := by omega
        subst this
        simp at ha
        exact .inr ⟨rfl, ha.symm⟩
    rcases key ha with ⟨la, ga⟩ | ⟨rfl, rfl⟩ <;> rcases key hb with ⟨lb, gb⟩ | ⟨rfl, rfl⟩
    · exact h.one a b q q' f ga gb fa fb
    · have := h.lt (List.mem_of_getElem? ga) fa
      have := List.mem_singleton.mp fb
      omega
    · have := h.lt (List.mem_of_getElem? gb) fb
      have := List.mem_singleton.mp fa
      omega
    · rfl
  · rw [List.map_append, List.pairwise_append]
    refine ⟨h.fst, by simp, fun x hx y hy => ?_⟩
    obtain ⟨q, hq, rfl⟩ := List.mem_map.mp hx
    simp at hy
    subst hy
    cases q with
    | nil => exact absurd rfl (h.ne [] hq)
    | cons f q => exact h.lt hq (by simp)
theorem PartI.add {i k : Nat} {qs : List (List Nat)} {q0 : List Nat} (h : PartI i qs) (hk : qs[k]? = some q0) : PartI (i + 1) (qs.set k (q0 ++ [i])) := by
  have hkl : k < qs.length := (List.getElem?_eq_some_iff.mp hk).1
  have hq0 := List.mem_of_getElem? hk
  have key : ∀ {a : Nat} {q : List Nat}, (qs.set k (q0 ++ [i]))[a]? = some q → (a = k ∧ q = q0 ++ [i]) ∨ (a ≠ k ∧ qs[a]? = some q) := fun {a q} ha => by
    by_cases e : a = k
    · subst e
      rw [List.getElem?_set_self hkl] at ha
      exact .inl ⟨rfl, (Option.some.inj ha).symm⟩
    · rw [List.getElem?_set_ne (Ne.symm e)] at ha
      exact .inr ⟨e, ha⟩
  have mem : ∀ {q : List Nat}, q ∈ qs.set k (q0 ++ [i]) → q = q0 ++ [i] ∨ q ∈ qs := fun {q} hq => by
    obtain ⟨a, ha⟩ := List.mem_iff_getElem?.mp hq
    rcases key ha with ⟨_, e⟩ | ⟨_, e⟩
    · exact .inl e
    · exact .inr (List.mem_of_getElem? e)
  refine ⟨fun q hq => ?_, fun q hq => ?_, fun f => ?_, fun a b q q' f ha hb fa fb => ?_, ?_⟩
  · rcases mem hq with rfl | z
    · simp
    · exact h.ne q z
  · rcases mem hq with rfl | z
    · rw [List.pairwise_append]
      refine ⟨h.inc q0 hq0, by simp, fun x hx y hy => ?_⟩
      rw [List.mem_singleton.mp hy]
      exact h.lt hq0 hx
    · exact h.inc q z
  · have hnew : q0 ++ [i] ∈ qs.set k (q0 ++ [i]) := List.mem_of_getElem? (List.getElem?_set_self hkl)
    constructor
    · intro hf
      by_cases e : f = i
      · exact ⟨q0 ++ [i], hnew, by simp [e]⟩
      · obtain ⟨q, h1, h2⟩ := (h.all f).mp (by omega)
        obtain ⟨a, ha⟩ := List.mem_iff_getElem?.mp h1
        by_cases hak : a = k
        · subst hak
          rw [hk] at ha
          cases ha
          exact ⟨q0 ++ [i], hnew, List.mem_append_left _ h2⟩
        · exact ⟨q, List.mem_of_getElem? ((List.getElem?_set_ne (Ne.symm hak)).trans ha), h2⟩
    · rintro ⟨q, h1, h2⟩
      rcases mem h1 with rfl | z
      · rcases List.mem_append.mp h2 with z | z
        · have := h.lt hq0 z; omega
        · have := List.mem_singleton.mp z; omega
      · have := h.lt z h2; omega
  · rcases key ha with ⟨rfl, rfl⟩ | ⟨na, ga⟩ <;> rcases key hb with ⟨rfl, rfl⟩ | ⟨nb, gb⟩
    · rfl
    · rcases List.mem_append.mp fa with z | z
      · exact h.one _ _ _ _ f hk gb z fb
      · have := h.lt (List.mem_of_getElem? gb) fb
        have := List.mem_singleton.mp z
        omega
    · rcases List.mem_append.mp fb with z | z
      · exact h.one _ _ _ _ f ga hk fa z
      · have := h.lt (List.mem_of_getElem? ga) fa
        have := List.mem_singleton.mp z
        omega
    · exact h.one _ _ _ _ f ga gb fa fb
  · have : (qs.set k (q0 ++ [i])).map (fun q => q.headD 0) = qs.map fun q => q.headD 0 := by
      rw [List.map_set]
      refine List.ext_getElem? fun a => ?_
      by_cases e : k = a
      · subst e
        rw [List.getElem?_set_self (by simpa using hkl), List.getElem?_map, hk]
        cases q0 with
        | nil => exact absurd rfl (h.ne [] hq0)
        | cons f q => rfl
      · rw [List.getElem?_set_ne e]
    rw [this]
    exact h.fst
theorem flat_nodup : ∀ {qs : List (List Nat)}, (∀ q ∈ qs, q.Nodup) → (∀ (a b : Nat) (q q' : List Nat) (f : Nat), qs[a]? = some q → qs[b]? = some q' → f ∈ q → f ∈ q' → a = b) → qs.flatten.Nodup
  | [], _, _ => by simp
  | q :: qs, h1, h2 => by
    rw [List.flatten_cons, List.nodup_append]
    refine ⟨h1 q (by simp), flat_nodup (fun x hx => h1 x (List.mem_cons_of_mem _ hx)) (fun a b x x' f ha hb fa fb => ?_), fun x hx y hy e => ?_⟩
    · have := h2 (a + 1) (b + 1) x x' f (by simpa using ha) (by simpa using hb) fa fb
      omega
    · subst e
      obtain ⟨q', hq', hf⟩ := List.mem_flatten.mp hy
      obtain ⟨b, hb⟩ := List.mem_iff_getElem?.mp hq'
      have := h2 0 (b + 1) q q' x rfl (by simpa using hb) hx hf
      omega
structure StI (n : Nat) (ord : List Nat) (sd : List Int) : Prop where
  len : sd.length = n
  at_ : ∀ i, i < n → sd[i]? = some (-1) ∨ ∃ j k x : Nat, j < k ∧ ord[k]? = some i ∧ ord[j]? = some x ∧ sd[i]? = some (x : Int)
structure OrdI (n : Nat) (ord : List Nat) : Prop where
  nd : ord.Nodup
  lt : ∀ i ∈ ord, i < n
  len : ord.length = n
theorem ord_idx {ord : List Nat} (nd : ord.Nodup) {k i : Nat} (h : ord[k]? = some i) : ord.idxOf i = k := by
  obtain ⟨hk, e⟩ := List.getElem?_eq_some_iff.mp h
  rw [← e]
  exact List.Nodup.idxOf_getElem nd k hk
theorem tree_ok {m : Nat} {qs : List (List Nat)} {ord : List Nat} {sd : List Int} (h : PartI m qs) (ho : OrdI qs.length ord) (hs : StI qs.length ord sd) : Tr.Ok m ⟨qs, sd⟩ := by
  have hst : ∀ i, i < qs.length → (⟨qs, sd⟩ : Tr).st i = sd[i]?.getD (-1) := fun i _ => by unfold Tr.st; rw [List.getD_eq_getElem?_getD]
  refine ⟨hs.len, fun s h => ?_, h.ne, h.inc, h.all, flat_nodup (fun q hq => (h.inc q hq).imp fun h => Nat.ne_of_lt h) h.one, h.fst, fun i => ord.idxOf i, fun i hi => ?_, fun i hi h0 => ?_⟩
  · obtain ⟨i, hi⟩ := List.mem_iff_getElem?.mp h
    have hl : i < qs.length := by have := (List.getElem?_eq_some_iff.mp hi).1; have := hs.len; simp at *; omega
    rcases hs.at_ i hl with e | ⟨j, k, x, _, _, hx, e⟩
    · rw [hi] at e; cases e; show -1 ≤ (-1 : Int) ∧ (-1 : Int) < (qs.length : Int); omega
    · rw [hi] at e
      cases e
      have := ho.lt x (List.mem_of_getElem? hx)
      show -1 ≤ (x : Int) ∧ (x : Int) < (qs.length : Int)
      omega
  · have hm : i ∈ ord := by
      refine Classical.byContradiction fun z => ?_
      have := nodup_len qs.length (l := i :: ord) (List.nodup_cons.mpr ⟨z, ho.nd⟩) fun x hx => by
        rcases List.mem_cons.mp hx with rfl | hx
        · exact hi
        · exact ho.lt x hx
      rw [List.length_cons, ho.len] at this
      omega
    have := List.idxOf_lt_length_iff.mpr hm
    rw [ho.len] at this
    exact this
  · rw [hst i hi] at h0 ⊢
    rcases hs.at_ i hi with e | ⟨j, k, x, hjk, hk, hx, e⟩
    · rw [e] at h0; simp at h0
    · rw [e]
      show ord.idxOf ((x : Int).toNat) < ord.idxOf i
      rw [ord_idx ho.nd hk]
      have : ((x : Int)).toNat = x := by omega
      rw [this, ord_idx ho.nd hx]
      exact hjk
end WL
namespace WL
open PySem L2
local macro_rules | `(tactic| simp only [evs_, $xs,*]) => `(tactic| simp only [dX, dXs, dXo, dXi, dSc, d2, d1, dN, dVar, dC, dTup, dLst, dTru, dB, dChain, dIte, dNotV, dNotT, dJoinV, dJoinT, dNil, dCons, dCall, dBM, dIsi, dIsi2, dAttr, dMeth, dNew, dDget, dDin, dDnew, dKidx, dKin, dKget, dDisp, dFrz, dRev, dLrg, dSset, dSlice, dNoPart, dPart, dDfz, dRaise, dTry, dCatch, dKind, isx_eq, xfl_eq, dIsc, Gam.low, dAsg, dExpr, dRet, dIf, dFld, dSet, dDput, dNever, dFor, dNext, binP, cmpP, iSeqD, iRg1, iRg2, iZip, iEnumD, Tg.asg, setAll, List.set, List.map_cons, List.map_nil, subW, modW, fdivW, powW, ltW, leW, gtW, geW, newL, finD, frzO, tupW, listW, oneW, twoW, BI.w, ints_eq, add_int, add_str, add_tup, add_lst, mul_int, mul_lst, mul_tup, idx_tup, idx_lst, idx_scr, idx_str, len_tup, len_lst, len_scr, len_str, sl_tup, sl_lst, neg_int, str_int, str_str, int_int, int_bl, is_non, is_int, is_str, is_tup, is_lst, is_bl, is_bb, dss_cons, eq_int, eq_str, eq_bl, ne_int, ne_str, ne_bl, eq_nilL, ty_non, ty_bl, ty_int, ty_str, ty_tup, ty_lst, ty_scr, ty_dk, Ty.sub, tr_bl, tr_non, tr_int, tr_str, sv_lst, sv_tup, sv_scr, lv_lst, at0, at1, at2, cut1, len0, ss_nil, for_nil, for_cons, pairs_cons, pairs_nil, pairs_nil', walk_lst, walk_scr, walk_tup, walk_str, walk_ref, List.getElem?_cons_zero, List.getElem?_cons_succ, List.length_cons, List.length_nil, List.append_nil, List.cons_append, List.nil_append, Option.some.injEq, W.int.injEq, W.str.injEq, W.bl.injEq, W.tup.injEq, W.lst.injEq, W.ref.injEq, List.cons.injEq, Option.map_some, exists_and_left, exists_and_right, exists_eq_left, exists_eq_left', exists_eq, exists_eq', exists_eq_right, exists_eq_right', and_true, true_and, and_assoc, reduceIte, reduceCtorEq, decide_true, decide_false, decide_eq_true_eq, decide_eq_false_iff_not, Bool.not_eq_true', Bool.not_eq_false', Bool.true_eq_false, Bool.false_eq_true, if_true, if_false, Bool.not_true, Bool.not_false, ite_true, ite_false, Int.cast_ofNat_Int, Int.reduceAdd, Int.reduceSub, Int.reduceEq, Int.reduceLT, Int.reduceLE, Int.natCast_add, Nat.reduceEqDiff, Nat.reduceAdd, Nat.add_zero, Nat.zero_add, Nat.succ_ne_zero, not_true_eq_false, not_false_eq_true, Option.getD_some, Option.getD_none, Option.isSome_some, Option.isSome_none, $xs,*])
def c_l_tree_11 : Ss := .cons (.asg (.name 7) (.bin .Sub false (.blt false .len (.cons (.var 2) .nil)) (.lit (.int 1)))) .nil
def c_l_tree_10 : Ss := .cons (.expr (.bm true .append (.var 2) (.cons (.lst true .nil) .nil))) c_l_tree_11
def c_l_tree_9 : Ss := .cons (.expr (.bm true .append (.idx (.var 2) (.var 7)) (.cons (.var 3) .nil))) .nil
def c_l_tree_8 : Ss := .cons (.ite (.cmp .GtE (.var 7) (.blt false .len (.cons (.var 2) .nil))) c_l_tree_10 .nil) c_l_tree_9
def c_l_tree_7 : Ss := .cons (.asg (.name 7) (.call 45 (.cons (.var 0) (.cons (.bin .Add false (.bin .Add false (.blt false .len (.cons (.var 2) .nil)) (.lit (.int 1))) (.call 45 (.cons (.var 0) (.cons (.lit (.int 2)) .nil)))) .nil)))) c_l_tree_8
def c_l_tree_12 : Ss := .cons (.set (.var 6) (.idx (.var 5) (.var 7)) (.idx (.bin .Add false (.lst false (.cons (.neg (.lit (.int 1))) .nil)) (.slice false (.var 5) .none (.some (.var 7)))) (.call 45 (.cons (.var 0) (.cons (.bin .Add false (.var 7) (.lit (.int 1))) .nil))))) .nil
def c_l_tree_6 : Ss := .cons (.ret (.tup (.cons (.blt false .tup (.cons (.lc false (.blt false .tup (.cons (.var 8) .nil)) (.name 8) (.seq (.var 2)) .none [("_law_part", 8)]) .nil)) (.cons (.blt false .tup (.cons (.var 6) .nil)) .nil)))) .nil
def c_l_tree_5 : Ss := .cons (.for_ (.name 7) (.rg2 (.lit (.int 1)) (.blt false .len (.cons (.var 5) .nil))) c_l_tree_12) c_l_tree_6
def c_l_tree_4 : Ss := .cons (.asg (.name 6) (.bin .Mult true (.lst false (.cons (.neg (.lit (.int 1))) .nil)) (.blt false .len (.cons (.var 2) .nil)))) c_l_tree_5
def c_l_tree_3 : Ss := .cons (.asg (.name 5) (.lc false (.bm false .popAt (.var 4) (.cons (.call 45 (.cons (.var 0) (.cons (.blt false .len (.cons (.var 4) .nil)) .nil))) .nil)) (.name 7) (.rg1 (.blt false .len (.cons (.var 2) .nil))) .none [("_law_k", 7)])) c_l_tree_4
def c_l_tree_2 : Ss := .cons (.asg (.name 4) (.lrg true (.blt false .len (.cons (.var 2) .nil)))) c_l_tree_3
def c_l_tree_1 : Ss := .cons (.for_ (.name 3) (.rg1 (.blt false .len (.cons (.var 1) .nil))) c_l_tree_7) c_l_tree_2
def c_l_tree : Ss := .cons (.asg (.name 2) (.lst true .nil)) c_l_tree_1
def n_l_tree : List Str := ["_law_h", "_law_program_here", "_law_parts", "_law_function", "_law_left", "_law_order", "_law_stands", "_law_k", "_law_part"]
theorem lc_inv {own : Bool} {G : Mh → Prop} {g : Tg} {te : DE} {D : Addr} {σ : Sw} {Q : QW} (I : Nat → List W → Mh → Prop) (hD : ∀ i acc M, I i acc M → M D = some (.lst acc)) (hG : ∀ M, G M) : ∀ (xs : List W) (j : Nat) {acc : List W} {M : Mh}, I j acc M →
    (∀ i x acc M (K : QW), xs[i]? = some x → I (j + i) acc M → (∀ y M2, M2 D = some (.lst acc) → I (j + i + 1) (acc ++ [y]) (mup M2 D (.lst (acc ++ [y]))) → K y M2) → ∃ σ', g.asg x σ = some σ' ∧ te σ' M K noX) →
    (∀ acc M, I (j + xs.length) acc M → finL own D acc M Q) → lcW own G g dYes te D σ xs acc M Q
  | [], j, acc, M, h0, _, he => he acc M h0
  | x :: xs, j, acc, M, h0, hs, he => by
    obtain ⟨σ', e, t⟩ := hs 0 x acc M (fun y M2 => M2 D = some (.lst acc) ∧ G (mup M2 D (.lst (acc ++ [y]))) ∧ lcW own G g dYes te D σ xs (acc ++ [y]) (mup M2 D (.lst (acc ++ [y]))) Q) rfl h0 fun y M2 h1 h2 => by
      refine ⟨h1, hG _, lc_inv I hD hG xs (j + 1) h2 (fun i z acc M K e h k => ?_) (fun acc M h => he acc M ?_)⟩
      · have e1 : j + 1 + i = j + (i + 1) := by omega
        have e2 : j + 1 + i + 1 = j + (i + 1) + 1 := by omega
        rw [e1] at h
        rw [e2] at k
        exact hs (i + 1) z acc M K (by simpa using e) h k
      · have e1 : j + 1 + xs.length = j + (x :: xs).length := by rw [List.length_cons]; omega
        rw [e1] at h
        exact h
    exact ⟨σ', e, hD _ _ _ h0, hG _, t⟩
theorem pop_perm {l o : List Nat} {r : Nat} (h : r < l.length) : (l.eraseIdx r ++ (o ++ [l[r]])).Perm (l ++ o) := by
  have h1 : ∀ {l : List Nat} {r : Nat} (h : r < l.length), (l[r] :: l.eraseIdx r).Perm l := by
    intro l
    induction l with
    | nil => intro r h; simp at h
    | cons x l ih =>
      intro r h
      cases r with
      | zero => exact List.Perm.refl _
      | succ r =>
        have := ih (r := r) (by simpa using h)
        exact (List.Perm.swap _ _ _).trans (this.cons x)
  have h1 := h1 h
  rw [← List.append_assoc]
  exact (List.perm_append_comm).trans (by simpa using h1.append_right o)
theorem wInts_erase : ∀ {l : List Nat} {r : Nat}, (wInts l).eraseIdx r = wInts (l.eraseIdx r)
  | [], _ => rfl
  | _ :: _, 0 => rfl
  | x :: l, r + 1 => congrArg (W.int x :: ·) (wInts_erase (l := l) (r := r))
theorem StI.put {n : Nat} {ord : List Nat} {sd : List Int} (h : StI n ord sd) {i o : Nat} {v : Int} (hi : ord[i]? = some o) (hv : v = -1 ∨ ∃ j x : Nat, j < i ∧ ord[j]? = some x ∧ v = (x : Int)) : StI n ord (sd.set o v) := by
  refine ⟨by simpa using h.len, fun a ha => ?_⟩
  by_cases e : a = o
  · subst e
    rw [List.getElem?_set_self (by rw [h.len]; exact ha)]
    rcases hv with rfl | ⟨j, x, h1, h2, rfl⟩
    · exact .inl rfl
    · exact .inr ⟨j, i, x, h1, hi, h2, rfl⟩
  · rw [List.getElem?_set_ne (Ne.symm e)]
    exact h.at_ a ha
theorem zip_fst : ∀ {as : List Addr} {qs : List (List Nat)}, as.length = qs.length → as.map W.ref = ((as.zip qs).map fun pr => (W.ref pr.1, some (W.tup (wInts pr.2)))).map (·.1)
  | [], [], _ => rfl
  | [], _ :: _, h => by cases h
  | _ :: _, [], h => by cases h
  | c :: as, q :: qs, h => by
    have := zip_fst (as := as) (qs := qs) (by simpa using h)
    simp only [List.zip_cons_cons, List.map_cons]
    rw [this]
theorem zip_snd : ∀ {as : List Addr} {qs : List (List Nat)}, as.length = qs.length → ((as.zip qs).map fun pr => (W.ref pr.1, some (W.tup (wInts pr.2)))).filterMap (·.2) = encPs qs
  | [], [], _ => rfl
  | [], _ :: _, h => by cases h
  | _ :: _, [], h => by cases h
  | c :: as, q :: qs, h => by
    have := zip_snd (as := as) (qs := qs) (by simpa using h)
    simp only [List.zip_cons_cons, List.map_cons, List.filterMap_cons]
    rw [this]
    rfl
theorem for_rangeL {b : DS} {D : Dw} {s lo n : Nat} {l' : Int} {σ : Sw} {M : Mh} (hl' : l' = lo) (I : Nat → Sw → Mh → Prop) (h0 : I lo σ M)
    (hs : ∀ i σ M (K : QS), lo ≤ i → i < n → I i σ M → (∀ σ2 M2, I (i + 1) σ2 M2 → K σ2 M2) → b { nx := K, rt := D.rt, bk := D.nx, ct := K, ex := D.ex } (σ.set s (some (.int i))) M)
    (he : ∀ σ M, I (max lo n) σ M → D.nx σ M) : forW (fun _ => True) (.name s) b (rangeL l' (n : Int)) D σ M := by
  subst hl'
  have hl : (rangeL (lo : Int) (n : Int)).length = n - lo := by unfold rangeL; rw [List.length_map, List.length_range]; omega
  refine for_inv I (fun _ _ _ _ => trivial) _ lo h0 (fun i x σ M K e h k => ?_) (fun σ M h => he σ M ?_)
  · have hi : i < n - lo := by rw [← hl]; exact (List.getElem?_eq_some_iff.mp e).1
    unfold rangeL at e
    rw [List.getElem?_map, List.getElem?_range (by omega)] at e
    cases e
    have := hs (lo + i) σ M K (by omega) (by omega) h k
    have e2 : ((lo + i : Nat) : Int) = (lo : Int) + (i : Int) := by omega
    rw [e2] at this
    exact ⟨_, rfl, this⟩
  · rw [hl] at h
    have : lo + (n - lo) = max lo n := by omega
    rw [this] at h
    exact h
structure RefL (M : Mh) (L : Addr) (as : List Addr) (qs : List (List Nat)) : Prop where
  hL : M L = some (.lst (as.map W.ref))
  len : as.length = qs.length
  at_ : ∀ (i : Nat) (a : Addr) (q : List Nat), as[i]? = some a → qs[i]? = some q → M a = some (.lst (wInts q))
  nd : as.Nodup
  nL : L ∉ as
theorem nn (h : ¬ True) : False := h trivial
def sp_l_tree : Nat → Wp := fun k ws M Q _ => ∃ (a s : Addr) (p : List (Nat × Bd)), ws = [.ref a, encP p] ∧ Hs a s M ∧ PrOk p ∧ 2 ≤ k ∧ ∀ t M', t.Ok p.length → Hs a s M' → Fr a s M M' → Q (encT t) M'
theorem Hs.ne_of {a s c : Addr} {M : Mh} {ws : List W} (h : Hs a s M) (hc : M c = none) : c ≠ a ∧ c ≠ s := h.at_ne hc
theorem keep_l_tree {Γ : Gam} {k : Nat} (f_l_next : Γ.fn 45 = dn sp_l_next k) : KeepG Γ n_l_tree 2 c_l_tree (sp_l_tree k) := by
  rintro ws M Q Ex ⟨a, s, p, rfl, hs, pok, hk, q⟩
  refine ⟨rfl, ?_⟩
  show dSs Γ _ _ [some (.ref a), some (encP p), none, none, none, none, none, none, none] M
  cases k with
  | zero => omega
  | succ k =>
  have h8 := pok.l8
  simp only [evs_, c_l_tree, c_l_tree_1, encP, List.length_map]
  intro L hL
  refine ⟨by omega, by omega, ?_⟩
  obtain ⟨nLa, nLs⟩ := hs.at_ne hL
  refine for_range (fun i σ M' => (∃ x y, σ = [some (.ref a), some (.tup (p.map encF)), some (.ref L), x, none, none, none, y, none]) ∧ ∃ as qs, PartI i qs ∧ RefL M' L as qs ∧ Hs a s M' ∧ Fr a s M M' ∧ (∀ c ∈ as, M c = none)) ⟨⟨_, _, rfl⟩, [], [], .nil, ⟨mup_at, rfl, by simp, by simp, by simp⟩, hs.up nLa nLs, fun b o hb _ _ => sub_fresh hL b o hb, by simp⟩ (fun i σ M' K hi h hK => ?_) (fun σ M' h => ?_)
  · obtain ⟨⟨x, y, rfl⟩, as, qs, pi, rl, hs', fr, has⟩ := h
    have hlen : qs.length ≤ i := by
      have h1 := nodup_len i (flat_nodup (fun q hq => (pi.inc q hq).imp fun h => Nat.ne_of_lt h) pi.one) fun x hx => by
        obtain ⟨q, h1, h2⟩ := List.mem_flatten.mp hx
        exact pi.lt h1 h2
      have h2 : ∀ (qs : List (List Nat)), (∀ q ∈ qs, q ≠ []) → qs.length ≤ qs.flatten.length := by
        intro qs h
        induction qs with
        | nil => simp
        | cons q qs ih =>
          have := ih fun x hx => h x (List.mem_cons_of_mem _ hx)
          have := List.length_pos_iff.mpr (h q (by simp))
          rw [List.flatten_cons, List.length_append, List.length_cons]
          omega
      have := h2 qs pi.ne
      omega
    have hal := rl.len
    simp only [evs_, c_l_tree_7, len_ref rl.hL, List.length_map, f_l_next, dn]
    refine use_next 2 hs' rfl (by decide) (by decide) fun r M1 hr hs1 fr1 => ?_
    simp only [evs_, dX]
    refine use_next (as.length + 1 + r) hs1 (by simp) (by omega) (by omega) fun r2 M2 hr2 hs2 fr2 => ?_
    have nLa' : L ≠ a ∧ L ≠ s := ⟨nLa, nLs⟩
    have fr12 := fr1.trans fr2
    have hMn : ∀ c, M c = none → c ≠ a ∧ c ≠ s := fun c hc => hs.at_ne hc
    have rl2 : RefL M2 L as qs := ⟨fr12 L _ rl.hL nLa nLs, rl.len, fun j c q h1 h2 => fr12 c _ (rl.at_ j c q h1 h2) (hMn c (has c (List.mem_of_getElem? h1))).1 (hMn c (has c (List.mem_of_getElem? h1))).2, rl.nd, rl.nL⟩
    have fr2' := fr.trans fr12
    simp only [evs_, c_l_tree_8, len_ref rl2.hL, List.length_map]
    by_cases hge : (as.length : Int) ≤ (r2 : Int)
    · simp only [evs_, hge, ge_iff_le, if_true, c_l_tree_10, BM.recv, BM.w, cls_app]
      refine ⟨⟨_, rl2.hL⟩, fun A hA => ?_⟩
      have nAL : A ≠ L := fun z => by rw [z, rl2.hL] at hA; cases hA
      have hA0 : M A = none := by
        cases e : M A with
        | none => rfl
        | some o =>
          have hn := hs2.at_ne hA
          rw [fr2' A o e hn.1 hn.2] at hA
          cases hA
      have nAas : A ∉ as := fun z => by
        obtain ⟨j, hj⟩ := List.mem_iff_getElem?.mp z
        have hjl : j < qs.length := by have := (List.getElem?_eq_some_iff.mp hj).1; omega
        rw [rl2.at_ j A _ hj (List.getElem?_eq_getElem hjl)] at hA
        cases hA
      have hL3 : mup M2 A (.lst []) L = some (.lst (as.map W.ref)) := by rw [mup_off (Ne.symm nAL)]; exact rl2.hL
      refine ⟨_, hL3, Nat.lt_of_lt_of_le (by rw [List.length_map]; omega : (as.map W.ref).length < 100) (by decide), ?_⟩
      have hL4 : mup (mup M2 A (.lst [])) L (.lst (as.map W.ref ++ [.ref A])) L = some (.lst ((as ++ [A]).map W.ref)) := by rw [mup_at, List.map_append]; rfl
      simp only [evs_, c_l_tree_11, len_ref hL4, List.length_map, List.length_append]
      have hA4 : mup (mup M2 A (.lst [])) L (.lst (as.map W.ref ++ [.ref A])) A = some (.lst []) := by rw [mup_off nAL]; exact mup_at
      have hat : atI ((as ++ [A]).map W.ref) ((as.length : Int) + 1 - 1) = some (.ref A) := by
        have : ((as.length : Int) + 1 - 1) = (as.length : Nat) := by omega
        rw [this]
        refine atN ?_
        rw [List.getElem?_map, List.getElem?_append_right (Nat.le_refl _)]
        simp
      simp only [evs_, c_l_tree_9, idx_ref hL4, BM.recv, BM.w, cls_app, hat]
      refine ⟨⟨_, hA4⟩, _, hA4, by decide, ?_⟩
      refine hK _ _ ⟨⟨_, _, rfl⟩, as ++ [A], qs ++ [[i]], pi.new, ⟨?_, by simp [hal], fun j c q h1 h2 => ?_, ?_, ?_⟩, ?_, ?_, ?_⟩
      · rw [mup_off (Ne.symm nAL)]; exact hL4
      · by_cases hj : j < as.length
        · rw [List.getElem?_append_left hj] at h1
          rw [List.getElem?_append_left (by omega)] at h2
          have hca : c ∈ as := List.mem_of_getElem? h1
          have n1 : c ≠ A := fun z => nAas (z ▸ hca)
          have n2 : c ≠ L := fun z => rl2.nL (z ▸ hca)
          rw [mup_off n1, mup_off n2, mup_off n1]
          exact rl2.at_ j c q h1 h2
        · rw [List.getElem?_append_right (by omega)] at h1 h2
          have h3 := (List.getElem?_eq_some_iff.mp h1).1
          simp at h3
          have h4 : j - as.length = 0 := by omega
          have h5 : j - qs.length = 0 := by omega
          rw [h4] at h1
          rw [h5] at h2
          cases h1
          cases h2
          exact mup_at
      · rw [List.nodup_append]
        exact ⟨rl2.nd, by simp, fun x hx y hy e => by rw [List.mem_singleton.mp hy] at e; exact nAas (e ▸ hx)⟩
      · intro z
        rcases List.mem_append.mp z with z | z
        · exact rl2.nL z
        · exact nAL (List.mem_singleton.mp z).symm
      · exact ((hs2.up (hMn A hA0).1 (hMn A hA0).2).up nLa nLs).up (hMn A hA0).1 (hMn A hA0).2
      · intro b o hb h1 h2
        have n1 : b ≠ A := fun z => by rw [z, hA0] at hb; cases hb
        have n2 : b ≠ L := fun z => by rw [z, hL] at hb; cases hb
        rw [mup_off n1, mup_off n2, mup_off n1]
        exact fr2' b o hb h1 h2
      · intro c hc
        rcases List.mem_append.mp hc with z | z
        · exact has c z
        · rw [List.mem_singleton.mp z]; exact hA0
    · have hk2 : r2 < as.length := by omega
      have hA : as[r2]? = some as[r2] := List.getElem?_eq_getElem hk2
      have hq : qs[r2]? = some (qs[r2]'(by omega)) := List.getElem?_eq_getElem (by omega)
      generalize as[r2] = A at hA
      generalize qs[r2]'(by omega) = q0 at hq
      have hMA := rl2.at_ r2 A q0 hA hq
      have hAm := List.mem_of_getElem? hA
      have hA0 := has A hAm
      have hat : atI (as.map W.ref) (r2 : Int) = some (.ref A) := atN (by rw [List.getElem?_map, hA]; rfl)
      have hq0 : q0.length ≤ i := nodup_len i ((pi.inc q0 (List.mem_of_getElem? hq)).imp fun h => Nat.ne_of_lt h) fun x hx => pi.lt (List.mem_of_getElem? hq) hx
      simp only [evs_, hge, ge_iff_le, if_false, c_l_tree_9, idx_ref rl2.hL, BM.recv, BM.w, cls_app, hat]
      refine ⟨⟨_, hMA⟩, _, hMA, szl (by rw [wInts_len]; omega), ?_⟩
      refine hK _ _ ⟨⟨_, _, rfl⟩, as, qs.set r2 (q0 ++ [i]), pi.add hq, ⟨?_, by simp [hal], fun j c q h1 h2 => ?_, rl2.nd, rl2.nL⟩, hs2.up (hMn A hA0).1 (hMn A hA0).2, ?_, has⟩
      · rw [mup_off (fun z => rl2.nL (by rw [z]; exact hAm))]; exact rl2.hL
      · by_cases hj : j = r2
        · subst hj
          rw [hA] at h1
          cases h1
          rw [List.getElem?_set_self (by omega)] at h2
          cases h2
          rw [mup_at, ← wInts_app]
          rfl
        · rw [List.getElem?_set_ne (Ne.symm hj)] at h2
          have n1 : c ≠ A := fun z => by
            subst z
            exact hj ((ord_idx rl2.nd h1).symm.trans (ord_idx rl2.nd hA))
          rw [mup_off n1]
          exact rl2.at_ j c q h1 h2
      · intro b o hb h1 h2
        rw [mup_off (fun z => by rw [z, hA0] at hb; cases hb)]
        exact fr2' b o hb h1 h2
  · obtain ⟨⟨x, y, rfl⟩, as, qs, pi, rl, hs', fr, has⟩ := h
    have hal := rl.len
    have hlen : qs.length ≤ p.length := by
      have h2 : ∀ (qs : List (List Nat)), (∀ q ∈ qs, q ≠ []) → qs.length ≤ qs.flatten.length := by
        intro qs h
        induction qs with
        | nil => simp
        | cons q qs ih =>
          have := ih fun x hx => h x (List.mem_cons_of_mem _ hx)
          have := List.length_pos_iff.mpr (h q (by simp))
          rw [List.flatten_cons, List.length_append, List.length_cons]
          omega
      have h1 := nodup_len p.length (flat_nodup (fun q hq => (pi.inc q hq).imp fun h => Nat.ne_of_lt h) pi.one) fun x hx => by
        obtain ⟨q, h1, h2⟩ := List.mem_flatten.mp hx
        exact pi.lt h1 h2
      have := h2 qs pi.ne
      omega
    have hMn : ∀ c, M c = none → c ≠ a ∧ c ≠ s := fun c hc => hs.at_ne hc
    simp only [evs_, c_l_tree_2, len_ref rl.hL, List.length_map, hal]
    refine ⟨by omega, by omega, fun B hB => ?_⟩
    have nBL : B ≠ L := fun z => by rw [z, rl.hL] at hB; cases hB
    have nB := hs'.at_ne hB
    have hB0 : M B = none := by
      cases e : M B with
      | none => rfl
      | some o => rw [fr B o e nB.1 nB.2] at hB; cases hB
    have hL1 : mup M' B (.lst (rangeL 0 (qs.length : Int))) L = some (.lst (as.map W.ref)) := by rw [mup_off (Ne.symm nBL)]; exact rl.hL
    simp only [evs_, c_l_tree_3, dLc, wipeW, len_ref hL1, List.length_map, hal]
    refine ⟨by omega, by omega, by rw [rangeL_len]; exact szl (by omega), fun D hD => ?_⟩
    have nDB : D ≠ B := fun z => by rw [z, mup_at] at hD; cases hD
    have hD' : M' D = none := by rw [mup_off nDB] at hD; exact hD
    have nDL : D ≠ L := fun z => by rw [z, rl.hL] at hD'; cases hD'
    have nD := hs'.at_ne hD'
    have hD0 : M D = none := by
      cases e : M D with
      | none => rfl
      | some o => rw [fr D o e nD.1 nD.2] at hD'; cases hD'
    have has' : ∀ c ∈ as, M' c ≠ none := fun c hc z => by
      obtain ⟨j, hj⟩ := List.mem_iff_getElem?.mp hc
      have hjl : j < qs.length := by have := (List.getElem?_eq_some_iff.mp hj).1; omega
      rw [rl.at_ j c _ hj (List.getElem?_eq_getElem hjl)] at z
      cases z
    refine lc_inv (fun i acc M2 => ∃ left ord, acc = wInts ord ∧ ord.length = i ∧ left.length + i = qs.length ∧ (left ++ ord).Nodup ∧ (∀ x ∈ left ++ ord, x < qs.length) ∧ M2 D = some (.lst acc) ∧ M2 B = some (.lst (wInts left)) ∧ RefL M2 L as qs ∧ Hs a s M2 ∧ Fr a s M M2) (fun i acc M2 ⟨_, _, _, _, _, _, _, h, _⟩ => h) (fun _ => trivial) _ 0
      ⟨List.range qs.length, [], rfl, rfl, by simp, by simpa using List.nodup_range, by simp, mup_at, ?_, ⟨?_, rl.len, fun j c q h1 h2 => ?_, rl.nd, rl.nL⟩, (hs'.up nB.1 nB.2).up nD.1 nD.2, fun b o hb h1 h2 => ?_⟩ (fun i x acc M2 K e h hK => ?_) (fun acc M2 h => ?_)
    · rw [mup_off (Ne.symm nDB), mup_at, rangeL_natI, ← wInts_eq]
    · rw [mup_off (Ne.symm nDL)]; exact hL1
    · have hc : c ∈ as := List.mem_of_getElem? h1
      rw [mup_off (fun z => has' c hc (by rw [z]; exact hD')), mup_off (fun z => has' c hc (by rw [z]; exact hB))]
      exact rl.at_ j c q h1 h2
    · rw [mup_off (fun z => by rw [z, hD0] at hb; cases hb), mup_off (fun z => by rw [z, hB0] at hb; cases hb)]
      exact fr b o hb h1 h2
    · obtain ⟨left, ord, rfl, hi, hl, nd, lt, hMD, hMB, rl2, hs2, fr2⟩ := h
      rw [Nat.zero_add] at hi hl hK
      have hil : i < qs.length := by have := (rangeL_get e).2; omega
      refine ⟨_, rfl, ?_⟩
      simp only [evs_, BM.recv, BM.w, len_ref hMB, wInts_len, f_l_next, dn]
      refine ⟨rfl, ⟨_, hMB⟩, use_next left.length hs2 rfl (by omega) (by omega) fun r M3 hr hs3 fr3 => ?_⟩
      have hB3 : M3 B = some (.lst (wInts left)) := fr3 B _ hMB nB.1 nB.2
      have hy : (wInts left)[r]? = some (.int (left[r] : Nat)) := by unfold wInts; rw [List.getElem?_map, List.getElem?_eq_getElem hr]; rfl
      have hix : seqIndex? (r : Int) (wInts left).length = some r := by
        rw [wInts_len]
        unfold seqIndex?
        have h1 : ¬ ((r : Int) < 0) := by omega
        have h2 : (r : Int) < (left.length : Int) := by omega
        simp [h1, h2]
      refine ⟨_, r, _, hB3, by omega, by omega, hix, hy, hK _ _ ?_ ⟨left.eraseIdx r, ord ++ [left[r]], ?_, by simp [hi], ?_, ?_, ?_, mup_at, ?_, ?_, ?_, ?_⟩⟩
      · rw [mup_off nDB]; exact fr3 D _ hMD nD.1 nD.2
      · rw [← wInts_app]; rfl
      · rw [List.length_eraseIdx, if_pos hr]; omega
      · exact ((pop_perm hr).nodup_iff).mpr nd
      · intro x hx; exact lt x ((pop_perm hr).mem_iff.mp hx)
      · rw [mup_off (Ne.symm nDB), mup_at]
        rw [wInts_erase]
      · have hne : ∀ c ∈ as, c ≠ D ∧ c ≠ B := fun c hc => ⟨fun z => has' c hc (by rw [z]; exact hD'), fun z => has' c hc (by rw [z]; exact hB)⟩
        refine ⟨?_, rl2.len, fun j c q h1 h2 => ?_, rl2.nd, rl2.nL⟩
        · rw [mup_off (Ne.symm nDL), mup_off (Ne.symm nBL)]; exact fr3 L _ rl2.hL nLa nLs
        · have hc : c ∈ as := List.mem_of_getElem? h1
          have hm := hMn c (has c hc)
          rw [mup_off (hne c hc).1, mup_off (hne c hc).2]
          exact fr3 c _ (rl2.at_ j c q h1 h2) hm.1 hm.2
      · exact (hs3.up nB.1 nB.2).up nD.1 nD.2
      · intro b o hb h1 h2
        rw [mup_off (fun z => by rw [z, hD0] at hb; cases hb), mup_off (fun z => by rw [z, hB0] at hb; cases hb)]
        exact fr3 b o (fr2 b o hb h1 h2) h1 h2
    · obtain ⟨left, ord, rfl, hi, hl, nd, lt, hMD, hMB, rl2, hs2, fr2⟩ := h
      rw [rangeL_len, Nat.zero_add] at hi hl
      have hl0 : left = [] := List.length_eq_zero_iff.mp (by omega)
      subst hl0
      have ho : OrdI qs.length ord := ⟨nd, lt, hi⟩
      refine ⟨hMD, ?_⟩
      have hasD : ∀ c ∈ as, c ≠ D := fun c hc z => has' c hc (by rw [z]; exact hD')
      have rl3 : RefL (mdel M2 D) L as qs := by
        refine ⟨?_, rl2.len, fun j c q h1 h2 => ?_, rl2.nd, rl2.nL⟩
        · unfold mdel; rw [if_neg (Ne.symm nDL)]; exact rl2.hL
        · unfold mdel; rw [if_neg (hasD c (List.mem_of_getElem? h1))]; exact rl2.at_ j c q h1 h2
      have hs3 : Hs a s (mdel M2 D) := hs2.del nD.1 nD.2
      have fr3 : Fr a s M (mdel M2 D) := fun b o hb h1 h2 => by
        unfold mdel
        rw [if_neg (fun z => by rw [z, hD0] at hb; cases hb)]
        exact fr2 b o hb h1 h2
      generalize mdel M2 D = M3 at rl3 hs3 fr3 ⊢
      simp only [evs_, c_l_tree_4, len_ref rl3.hL, List.length_map, hal]
      refine ⟨by decide, by omega, by omega, szl (by omega), fun C hC => ?_⟩
      have nC := hs3.at_ne hC
      have nCL : C ≠ L := fun z => by rw [z, rl3.hL] at hC; cases hC
      have hC0 : M C = none := by
        cases e : M C with
        | none => rfl
        | some o => rw [fr3 C o e nC.1 nC.2] at hC; cases hC
      have hasC : ∀ c ∈ as, c ≠ C := fun c hc z => by
        obtain ⟨j, hj⟩ := List.mem_iff_getElem?.mp hc
        have hjl : j < qs.length := by have := (List.getElem?_eq_some_iff.mp hj).1; omega
        rw [← z, rl3.at_ j c _ hj (List.getElem?_eq_getElem hjl)] at hC
        cases hC
      have hrep : (List.replicate ((qs.length : Int)).toNat [W.int (-1)]).flatten = (List.replicate qs.length (-1 : Int)).map W.int := by
        have : ((qs.length : Int)).toNat = qs.length := by omega
        rw [this]
        generalize qs.length = n
        induction n with
        | zero => rfl
        | succ n ih => rw [List.replicate_succ, List.replicate_succ, List.flatten_cons, ih]; rfl
      rw [hrep]
      simp only [evs_, c_l_tree_5, wInts_len, ho.len]
      have nrep : (List.replicate qs.length (-1 : Int)).length = qs.length := by simp
      refine ⟨by omega, by omega, by omega, by omega, for_rangeL (lo := 1) (n := qs.length) rfl (fun i σ M4 => (∃ y, σ = [some (.ref a), some (.tup (p.map encF)), some (.ref L), x, some (.ref B), some (.lst (wInts ord)), some (.ref C), y, none]) ∧ ∃ sd : List Int, StI qs.length ord sd ∧ M4 C = some (.lst (sd.map W.int)) ∧ RefL M4 L as qs ∧ Hs a s M4 ∧ Fr a s M M4)
        ⟨⟨_, rfl⟩, _, ⟨nrep, fun i hi => .inl (by rw [List.getElem?_replicate, if_pos hi])⟩, mup_at, ⟨?_, rl3.len, fun j c q h1 h2 => ?_, rl3.nd, rl3.nL⟩, hs3.up nC.1 nC.2, fun b o hb h1 h2 => ?_⟩ (fun i σ M4 K hlo hi h hK => ?_) (fun σ M4 h => ?_)⟩
      · rw [mup_off (Ne.symm nCL)]; exact rl3.hL
      · rw [mup_off (hasC c (List.mem_of_getElem? h1))]; exact rl3.at_ j c q h1 h2
      · rw [mup_off (fun z => by rw [z, hC0] at hb; cases hb)]; exact fr3 b o hb h1 h2
      · obtain ⟨⟨y, rfl⟩, sd, hst, hMC, rl4, hs4, fr4⟩ := h
        have hoi : ord[i]? = some (ord[i]'(by rw [ho.len]; exact hi)) := List.getElem?_eq_getElem _
        generalize ord[i]'(by rw [ho.len]; exact hi) = o at hoi
        have hol := ho.lt o (List.mem_of_getElem? hoi)
        have hao : atI (wInts ord) (i : Int) = some (.int (o : Nat)) := atN (by unfold wInts; rw [List.getElem?_map, hoi]; rfl)
        have hcut : cutW (wInts ord) none (some (i : Int)) = wInts (ord.take i) := by
          have hoL := ho.len
          unfold cutW HT.sIx wInts
          simp
          split <;> omega
        simp only [evs_, c_l_tree_12, List.set, hcut, wInts_len, List.length_take, f_l_next, dn]
        refine ⟨by decide, szl (by omega), use_next (i + 1) hs4 (by simp) (by omega) (by omega) fun r M5 hr hs5 fr5 => ?_⟩
        have hC5 := fr5 C _ hMC nC.1 nC.2
        have hpick : ∃ v : Int, atI (W.int (-1) :: wInts (ord.take i)) (r : Int) = some (.int v) ∧ (v = -1 ∨ ∃ j x : Nat, j < i ∧ ord[j]? = some x ∧ v = (x : Int)) := by
          cases r with
          | zero => exact ⟨-1, at0, .inl rfl⟩
          | succ r =>
            have hro : r < ord.length := by rw [ho.len]; omega
            refine ⟨(ord[r] : Nat), atN ?_, .inr ⟨r, ord[r], by omega, List.getElem?_eq_getElem hro, rfl⟩⟩
            unfold wInts
            rw [List.getElem?_cons_succ, List.getElem?_map, List.getElem?_take_of_lt (by omega), List.getElem?_eq_getElem hro]
            rfl
        obtain ⟨v, hv1, hv2⟩ := hpick
        have hsl : o < sd.length := by rw [hst.len]; exact hol
        simp only [evs_, hv1, hao]
        refine ⟨_, hC5, o, by simp [ixN, hsl], hK _ _ ⟨⟨_, rfl⟩, sd.set o v, hst.put hoi hv2, by rw [mup_at, List.map_set], ⟨?_, rl4.len, fun j c q h1 h2 => ?_, rl4.nd, rl4.nL⟩, hs5.up nC.1 nC.2, fun b o hb h1 h2 => ?_⟩⟩
        · rw [mup_off (Ne.symm nCL)]; exact fr5 L _ rl4.hL nLa nLs
        · have hc := List.mem_of_getElem? h1
          have hm := hMn c (has c hc)
          rw [mup_off (hasC c hc)]; exact fr5 c _ (rl4.at_ j c q h1 h2) hm.1 hm.2
        · rw [mup_off (fun z => by rw [z, hC0] at hb; cases hb)]; exact fr5 b o (fr4 b o hb h1 h2) h1 h2
      · obtain ⟨⟨y, rfl⟩, sd, hst, hMC, rl4, hs4, fr4⟩ := h
        simp only [evs_, c_l_tree_6, dLc, wipeW]
        refine ⟨_, rl4.hL, by rw [List.length_map]; exact szl (by omega), fun D2 hD2 => ⟨?_, ?_⟩⟩
        · rw [mup_off (fun z => by rw [← z, rl4.hL] at hD2; cases hD2)]; exact rl4.hL
        · have hx := zip_fst (as := as) (qs := qs) rl4.len
          have hy := zip_snd (as := as) (qs := qs) rl4.len
          rw [hx]
          refine lc_pairs hD2 (fun acc => ?_) _ [] (fun pr hp us => ?_) ?_
          · rw [mup_off (fun z => by rw [← z, rl4.hL] at hD2; cases hD2), ← hx]; exact rl4.hL
          · obtain ⟨⟨c, q0⟩, hz, rfl⟩ := List.mem_map.mp hp
            obtain ⟨j, hj⟩ := List.mem_iff_getElem?.mp hz
            have hj' := List.getElem?_zip_eq_some.mp hj
            have hmc := rl4.at_ j c q0 hj'.1 hj'.2
            have hmc' : mup M4 D2 (.lst us) c = some (.lst (wInts q0)) := by rw [mup_off (fun z => by rw [z, hD2] at hmc; cases hmc)]; exact hmc
            refine ⟨_, rfl, fun R h => h, fun y hy R h => ?_⟩
            cases hy
            simp only [evs_, sv_ref hmc']
            exact h
          · rw [List.nil_append, hy]
            refine fin_pure hD2 ?_
            simp only [evs_, sv_ref hMC]
            exact ⟨by decide, M4, .refl, q ⟨qs, sd⟩ M4 (tree_ok pi ho hst) hs4 fr4⟩
end WL
namespace WL
open PySem L2
local macro_rules | `(tactic| simp only [evs_, $xs,*]) => `(tactic| simp only [dX, dXs, dXo, dXi, dSc, d2, d1, dN, dVar, dC, dTup, dLst, dTru, dB, dChain, dIte, dNotV, dNotT, dJoinV, dJoinT, dNil, dCons, dCall, dBM, dIsi, dIsi2, dAttr, dMeth, dNew, dDget, dDin, dDnew, dKidx, dKin, dKget, dDisp, dFrz, dRev, dLrg, dSset, dSlice, dNoPart, dPart, dDfz, dRaise, dTry, dCatch, dKind, isx_eq, xfl_eq, dIsc, Gam.low, dAsg, dExpr, dRet, dIf, dFld, dSet, dDput, dNever, dFor, dNext, binP, cmpP, iSeqD, iRg1, iRg2, iZip, iEnumD, Tg.asg, setAll, List.set, List.map_cons, List.map_nil, subW, modW, fdivW, powW, ltW, leW, gtW, geW, newL, finD, frzO, tupW, listW, oneW, twoW, BI.w, ints_eq, add_int, add_str, add_tup, add_lst, mul_int, mul_lst, mul_tup, idx_tup, idx_lst, idx_scr, idx_str, len_tup, len_lst, len_scr, len_str, sl_tup, sl_lst, neg_int, str_int, str_str, int_int, int_bl, is_non, is_int, is_str, is_tup, is_lst, is_bl, is_bb, dss_cons, eq_int, eq_str, eq_bl, ne_int, ne_str, ne_bl, eq_nilL, ty_non, ty_bl, ty_int, ty_str, ty_tup, ty_lst, ty_scr, ty_dk, Ty.sub, tr_bl, tr_non, tr_int, tr_str, sv_lst, sv_tup, sv_scr, lv_lst, at0, at1, at2, cut1, len0, ss_nil, for_nil, for_cons, pairs_cons, pairs_nil, pairs_nil', walk_lst, walk_scr, walk_tup, walk_str, walk_ref, List.getElem?_cons_zero, List.getElem?_cons_succ, List.length_cons, List.length_nil, List.append_nil, List.cons_append, List.nil_append, Option.some.injEq, W.int.injEq, W.str.injEq, W.bl.injEq, W.tup.injEq, W.lst.injEq, W.ref.injEq, List.cons.injEq, Option.map_some, exists_and_left, exists_and_right, exists_eq_left, exists_eq_left', exists_eq, exists_eq', exists_eq_right, exists_eq_right', and_true, true_and, and_assoc, reduceIte, reduceCtorEq, decide_true, decide_false, decide_eq_true_eq, decide_eq_false_iff_not, Bool.not_eq_true', Bool.not_eq_false', Bool.true_eq_false, Bool.false_eq_true, if_true, if_false, Bool.not_true, Bool.not_false, ite_true, ite_false, Int.cast_ofNat_Int, Int.reduceAdd, Int.reduceSub, Int.reduceEq, Int.reduceLT, Int.reduceLE, Int.natCast_add, Nat.reduceEqDiff, Nat.reduceAdd, Nat.add_zero, Nat.zero_add, Nat.succ_ne_zero, not_true_eq_false, not_false_eq_true, Option.getD_some, Option.getD_none, Option.isSome_some, Option.isSome_none, $xs,*])
def c_l_laid_10 : Ss := .cons (.asg (.name 8) (.bin .Add false (.lst false (.cons (.idx (.var 7) (.idx (.var 8) (.lit (.int 0)))) .nil)) (.var 8))) .nil
def c_l_laid_9 : Ss := .cons (.expr (.bm true .append (.var 2) (.cons (.var 8) .nil))) .nil
def c_l_laid_8 : Ss := .cons (.while_ (.cmp .GtE (.idx (.var 7) (.idx (.var 8) (.lit (.int 0)))) (.lit (.int 0))) c_l_laid_10) c_l_laid_9
def c_l_laid_7 : Ss := .cons (.asg (.name 8) (.lst false (.cons (.var 3) .nil))) c_l_laid_8
def c_l_laid_14 : Ss := .cons (.asg (.name 9) (.bin .Add false (.var 9) (.idx (.idx (.var 0) (.var 10)) (.lit (.int 0))))) .nil
def c_l_laid_13 : Ss := .cons (.set (.var 5) (.var 10) (.tup (.cons (.var 9) (.cons (.idx (.var 2) (.var 3)) .nil)))) c_l_laid_14
def c_l_laid_12 : Ss := .cons (.for_ (.name 10) (.seq (.idx (.var 6) (.var 3))) c_l_laid_13) .nil
def c_l_laid_11 : Ss := .cons (.asg (.name 9) (.blt false .sum (.cons (.lc false (.idx (.var 4) (.var 11)) (.name 11) (.seq (.slice false (.idx (.var 2) (.var 3)) .none (.some (.neg (.lit (.int 1)))))) .none [("_law_under", 11)]) .nil))) c_l_laid_12
def c_l_laid_6 : Ss := .cons (.ret (.dfz (.tup (.cons (.var 5) (.cons (.blt false .maxL (.cons (.lc false (.blt false .sum (.cons (.lc false (.idx (.var 4) (.var 11)) (.name 11) (.seq (.var 8)) .none [("_law_under", 11)]) .nil)) (.name 8) (.seq (.var 2)) .none [("_law_down", 8)]) .nil)) .nil))))) .nil
def c_l_laid_5 : Ss := .cons (.for_ (.name 3) (.rg1 (.blt false .len (.cons (.var 6) .nil))) c_l_laid_11) c_l_laid_6
def c_l_laid_4 : Ss := .cons (.asg (.name 5) (.bin .Mult true (.lst false (.cons (.lit .non) .nil)) (.blt false .len (.cons (.var 0) .nil)))) c_l_laid_5
def c_l_laid_3 : Ss := .cons (.asg (.name 4) (.lc false (.blt false .sum (.cons (.lc false (.idx (.idx (.var 0) (.var 10)) (.lit (.int 0))) (.name 10) (.seq (.var 3)) .none [("_law_function", 10)]) .nil)) (.name 3) (.seq (.var 6)) .none [("_law_part", 3)])) c_l_laid_4
def c_l_laid_2 : Ss := .cons (.for_ (.name 3) (.rg1 (.blt false .len (.cons (.var 6) .nil))) c_l_laid_7) c_l_laid_3
def c_l_laid_1 : Ss := .cons (.asg (.name 2) (.lst true .nil)) c_l_laid_2
def c_l_laid : Ss := .cons (.asg (.tup [6, 7]) (.var 1)) c_l_laid_1
def n_l_laid : List Str := ["_law_program_here", "_law_tree_here", "_law_downs", "_law_part", "_law_sizes", "_law_found", "_law_parts", "_law_stands", "_law_down", "_law_cell", "_law_function", "_law_under"]
def laidL (p : List (Nat × Bd)) (t : Tr) : W := .lst ((List.range p.length).map fun f => .tup [.int (t.cell (szs p) f : Nat), .lst (wInts (t.down (t.pof f)))])
def sp_l_laid : Nat → Wp := fun _ ws M Q _ => ∃ (p : List (Nat × Bd)) (t : Tr), ws = [encP p, encT t] ∧ PrOk p ∧ t.Ok p.length ∧ Q (.tup [laidL p t, .int (t.want (szs p) : Nat)]) M
theorem sum_wI {l : List Nat} : (l.map fun f : Nat => (f : Int)).sum = (l.sum : Nat) := by
  induction l with
  | nil => rfl
  | cons f l ih => rw [List.map_cons, List.sum_cons, List.sum_cons, ih]; omega
theorem sumW_nat {l : List Nat} {M : Mh} {Q : QW} (q : Q (.int (l.sum : Nat)) M) : sumW (.lst (wInts l)) M Q := by
  refine ⟨natI l, wInts_eq l, ?_⟩
  unfold natI
  rw [sum_wI]
  exact q
theorem prog_at {p : List (Nat × Bd)} {f : Nat} (h : f < p.length) : atI (p.map encF) (f : Int) = some (encF p[f]) := atN (by rw [List.getElem?_map, List.getElem?_eq_getElem h]; rfl)
theorem size_of_at {p : List (Nat × Bd)} {f : Nat} (h : f < p.length) : sizeOf' (szs p) f = p[f].1 := by
  unfold sizeOf' szs
  rw [List.getD_eq_getElem?_getD, List.getElem?_map, List.getElem?_eq_getElem h]
  rfl
theorem fm_nat {α : Type} {g : α → W} {h : α → Nat} : ∀ {l : List α}, (l.map fun f => (g f, some (W.int (h f : Nat)))).filterMap (·.2) = wInts (l.map h)
  | [] => rfl
  | f :: l => by rw [List.map_cons, List.map_cons, List.filterMap_cons]; exact congrArg _ fm_nat
theorem wI_get {l : List Nat} {i : Nat} (h : i < l.length) : atI (wInts l) (i : Int) = some (.int (l[i] : Nat)) := atN (by unfold wInts; rw [List.getElem?_map, List.getElem?_eq_getElem h]; rfl)
theorem down_ne {m : Nat} {t : Tr} (ok : t.Ok m) {i : Nat} (hi : i < t.parts.length) : t.down i = (t.ups i).tail.reverse ++ [i] := by
  unfold Tr.down
  rw [ok.ups hi, List.reverse_cons, List.tail_cons]
theorem cut_last {a : List W} {x : W} : cutW (a ++ [x]) none (some (-1)) = a := by
  unfold cutW HT.sIx
  simp
  have : (-1 + ((a.length : Int) + 1)).toNat = a.length := by omega
  rw [this]
  simp
def cellW (p : List (Nat × Bd)) (t : Tr) (f : Nat) : W := .tup [.int (t.cell (szs p) f : Nat), .lst (wInts (t.down (t.pof f)))]
def foundL (p : List (Nat × Bd)) (t : Tr) (fl : List Nat) : List W := (List.range p.length).map fun f => if f ∈ fl then cellW p t f else .non
theorem found_set {p : List (Nat × Bd)} {t : Tr} {fl : List Nat} {f : Nat} (hf : f < p.length) : (foundL p t fl).set f (cellW p t f) = foundL p t (fl ++ [f]) := by
  unfold foundL
  refine List.ext_getElem? fun a => ?_
  by_cases e : f = a
  · subst e
    rw [List.getElem?_set_self (by simpa using hf), List.getElem?_map, List.getElem?_range hf]
    simp
  · rw [List.getElem?_set_ne e, List.getElem?_map, List.getElem?_map]
    by_cases ha : a < p.length
    · rw [List.getElem?_range ha]
      have : (a ∈ fl ++ [f]) ↔ a ∈ fl := by simp [Ne.symm e]
      simp only [Option.map_some, this]
    · rw [List.getElem?_eq_none (by simp; omega)]; rfl
theorem found_all {p : List (Nat × Bd)} {t : Tr} (ok : t.Ok p.length) : foundL p t t.parts.flatten = (List.range p.length).map (cellW p t) := by
  unfold foundL
  refine List.map_congr_left fun f hf => ?_
  rw [if_pos (ok.in_flat (List.mem_range.mp hf))]
theorem found_nil {p : List (Nat × Bd)} {t : Tr} : (List.replicate ((p.length : Int)).toNat [W.non]).flatten = foundL p t [] := by
  have : ((p.length : Int)).toNat = p.length := by omega
  rw [this]
  unfold foundL
  refine List.ext_getElem? fun a => ?_
  have h : (List.replicate p.length [W.non]).flatten = List.replicate p.length W.non := by
    generalize p.length = n
    induction n with
    | zero => rfl
    | succ n ih => rw [List.replicate_succ, List.replicate_succ, List.flatten_cons, ih]; rfl
  rw [h, List.getElem?_map]
  by_cases ha : a < p.length
  · rw [List.getElem?_replicate, if_pos ha, List.getElem?_range ha]; rfl
  · rw [List.getElem?_replicate, if_neg ha, List.getElem?_eq_none (by simp; omega)]; rfl
theorem keep_l_laid {Γ : Gam} {k : Nat} : KeepG Γ n_l_laid 2 c_l_laid (sp_l_laid k) := by
  rintro ws M Q Ex ⟨p, t, rfl, pok, ok, q⟩
  refine ⟨rfl, ?_⟩
  show dSs Γ _ _ [some (encP p), some (encT t), none, none, none, none, none, none, none, none, none, none] M
  have h8 := pok.l8
  have h1 := pok.l1
  have hl8 := ok.len_le
  have hst := ok.len
  have ep : (encPs t.parts).length = t.parts.length := by unfold encPs; rw [List.length_map]
  simp only [evs_, c_l_laid, encT, c_l_laid_1]
  intro L hL
  simp only [evs_, c_l_laid_2, ep]
  refine ⟨by omega, by omega, for_range (fun i σ M' => (∃ x y, σ = [some (encP p), some (.tup [.tup (encPs t.parts), .tup (t.stands.map W.int)]), some (.ref L), x, none, none, some (.tup (encPs t.parts)), some (.tup (t.stands.map W.int)), y, none, none, none]) ∧ M' = mup M L (.lst ((List.range i).map fun i => .lst (wInts (t.down i))))) ⟨⟨_, _, rfl⟩, rfl⟩ (fun i σ M' K hi h hK => ?_) (fun σ M' h => ?_)⟩
  · obtain ⟨⟨x, y, rfl⟩, rfl⟩ := h
    simp only [evs_, c_l_laid_7, c_l_laid_8]
    refine ⟨by decide, while_inv (fun m σ M' => ∃ (j : Nat) (d : List Nat), σ = [some (encP p), some (.tup [.tup (encPs t.parts), .tup (t.stands.map W.int)]), some (.ref L), some (.int i), none, none, some (.tup (encPs t.parts)), some (.tup (t.stands.map W.int)), some (.lst (wInts (j :: d))), none, none, none] ∧
      M' = mup M L (.lst ((List.range i).map fun i => .lst (wInts (t.down i)))) ∧ j < t.parts.length ∧ m = (t.ups j).length ∧ t.ups i = d.reverse ++ t.ups j ∧ d.length + m ≤ 8) (fun m σ M' K2 h hK2 => ?_) (m := (t.ups i).length) ⟨i, [], rfl, rfl, hi, rfl, by simp, by have := t.ups_len i; simp; omega⟩⟩
    obtain ⟨j, d, rfl, rfl, hj, rfl, hu, hd⟩ := h
    have hat : atI (wInts (j :: d)) 0 = some (.int (j : Nat)) := at0
    have huj := ok.ups hj
    simp only [evs_, hat, st_at (t := t) (i := j) (by omega), ge_iff_le]
    by_cases h0 : 0 ≤ t.st j
    · have hlt := ok.st_lt h0
      obtain ⟨j2, e2⟩ := Int.eq_ofNat_of_zero_le h0
      rw [if_pos h0] at huj
      rw [e2] at hlt huj ⊢
      have hlt : j2 < t.parts.length := hlt
      have huj : t.ups j = j :: t.ups j2 := huj
      rw [huj] at hd
      simp only [evs_, if_true, Int.natCast_nonneg, c_l_laid_10, hat, st_at (t := t) (i := j) (by omega), e2, wInts_len]
      simp at hd
      refine ⟨by decide, szl (by first | omega | (simp only [List.length_cons]; omega)), hK2 _ _ _ (by rw [huj]; simp) ⟨j2, j :: d, rfl, rfl, hlt, rfl, ?_, by simp; omega⟩⟩
      rw [hu, huj, List.reverse_cons]
      simp
    · rw [if_neg h0] at huj
      have hdn : t.down i = j :: d := by unfold Tr.down; rw [hu, huj]; simp
      simp only [evs_, h0, if_false, c_l_laid_9, BM.recv, BM.w, cls_app, recv_mup, app_mup]
      refine ⟨⟨_, mup_at⟩, Nat.lt_of_lt_of_le (by simp; omega : _ < 100) (by decide), hK _ _ ⟨⟨_, _, rfl⟩, ?_⟩⟩
      rw [List.range_succ, List.map_append, List.map_cons, List.map_nil, hdn]
  · obtain ⟨⟨x, y, rfl⟩, rfl⟩ := h
    simp only [evs_, c_l_laid_3, dLc, wipeW, ep]
    have hx : encPs t.parts = (((List.range t.parts.length).map fun i => (W.tup (wInts (t.part i)), some (W.int (t.psz (szs p) i : Nat))))).map (·.1) := by
      unfold encPs
      rw [List.map_map]
      refine List.ext_getElem? fun i => ?_
      by_cases hi : i < t.parts.length
      · rw [List.getElem?_map, List.getElem?_map, List.getElem?_range hi, part_get hi]; rfl
      · rw [List.getElem?_eq_none (by simp; omega), List.getElem?_eq_none (by simp; omega)]
    rw [hx]
    refine ⟨szl (by omega), lc_of _ rfl (fun _ _ _ => trivial) (fun D hD pr hp us => ?_) ?_⟩
    · obtain ⟨i, hi, rfl⟩ := List.mem_map.mp hp
      have hi := List.mem_range.mp hi
      refine ⟨_, rfl, fun R h => h, fun y hy R h => ?_⟩
      cases hy
      simp only [evs_, dLc, wipeW, wInts_len]
      refine ⟨szl (by have := ok.part_len hi; omega), lc_of ((t.part i).map fun f : Nat => (W.int f, some (W.int (sizeOf' (szs p) f : Nat)))) (by unfold wInts; rw [List.map_map]; rfl) (fun _ _ _ => trivial) (fun D2 hD2 pr2 hp2 us2 => ?_) ?_⟩
      · obtain ⟨f, hf, rfl⟩ := List.mem_map.mp hp2
        have hfp := ok.part_lt hi hf
        refine ⟨_, rfl, fun R h => h, fun y hy R h => ?_⟩
        cases hy
        simp only [evs_, encP, encF, prog_at hfp]
        rw [size_of_at hfp] at h
        exact h
      · rw [fm_nat]
        exact sumW_nat h
    · rw [fm_nat]
      rw [← hx]
      simp only [evs_, c_l_laid_4, encP, List.length_map]
      refine ⟨by decide, by omega, by omega, szl (by omega), fun R hR => ?_⟩
      have nRL : R ≠ L := fun z => by rw [z, mup_at] at hR; cases hR
      have hR0 : M R = none := by rw [mup_off nRL] at hR; exact hR
      simp only [evs_, c_l_laid_5, ep]
      rw [found_nil (t := t)]
      have hlf : (foundL p t []).length = p.length := by unfold foundL; simp
      refine ⟨by omega, by omega, for_range (fun i σ M' => (∃ x y z u, σ = [some (.tup (p.map encF)), some (.tup [.tup (encPs t.parts), .tup (t.stands.map W.int)]), some (.ref L), x, some (.lst (wInts ((List.range t.parts.length).map (t.psz (szs p))))), some (.ref R), some (.tup (encPs t.parts)), some (.tup (t.stands.map W.int)), y, z, u, none]) ∧ M' = mup (mup M L (.lst ((List.range t.parts.length).map fun i => .lst (wInts (t.down i))))) R (.lst (foundL p t (t.parts.take i).flatten))) ⟨⟨_, _, _, _, rfl⟩, rfl⟩ (fun i σ M' K hi h hK => ?_) (fun σ M' h => ?_)⟩
      · obtain ⟨⟨x, y, z, u, rfl⟩, rfl⟩ := h
        have hL1 : ∀ fl, mup (mup M L (.lst ((List.range t.parts.length).map fun i => .lst (wInts (t.down i))))) R (.lst (foundL p t fl)) L = some (.lst ((List.range t.parts.length).map fun i => .lst (wInts (t.down i)))) := fun fl => by rw [mup_off (Ne.symm nRL), mup_at]
        have hda : atI ((List.range t.parts.length).map fun i => W.lst (wInts (t.down i))) (i : Int) = some (.lst (wInts (t.down i))) := atN (by rw [List.getElem?_map, List.getElem?_range hi]; rfl)
        have hcut : cutW (wInts (t.down i)) none (some (-1)) = wInts (t.ups i).tail.reverse := by
          rw [down_ne ok hi, ← wInts_app]
          exact cut_last
        simp only [evs_, c_l_laid_11, dLc, wipeW, idx_ref (hL1 _), hda, hcut, wInts_len]
        have hul := t.ups_len i
        refine ⟨szl (by simp; omega), lc_of ((t.ups i).tail.reverse.map fun j : Nat => (W.int j, some (W.int (t.psz (szs p) j : Nat)))) (by unfold wInts; rw [List.map_map]; rfl) (fun _ _ _ => trivial) (fun D hD pr hp us => ?_) ?_⟩
        · obtain ⟨j, hj, rfl⟩ := List.mem_map.mp hp
          have hjl := ok.ups_lt i hi j (List.mem_of_mem_tail (List.mem_reverse.mp hj))
          refine ⟨_, rfl, fun R h => h, fun y hy R h => ?_⟩
          cases hy
          have : atI (wInts ((List.range t.parts.length).map (t.psz (szs p)))) (j : Int) = some (.int (t.psz (szs p) j : Nat)) := by
            refine atN ?_
            unfold wInts
            rw [List.map_map, List.getElem?_map, List.getElem?_range hjl]
            rfl
          simp only [evs_, this]
          exact h
        · rw [fm_nat]
          refine sumW_nat ?_
          have hb : ((t.ups i).tail.reverse.map (t.psz (szs p))).sum = t.beg (szs p) i := by
            unfold Tr.beg
            rw [List.map_reverse, List.sum_reverse]
          rw [hb]
          simp only [evs_, c_l_laid_12, part_at hi]
          refine for_inv (fun j σ M' => (∃ u, σ = [some (.tup (p.map encF)), some (.tup [.tup (encPs t.parts), .tup (t.stands.map W.int)]), some (.ref L), some (.int i), some (.lst (wInts ((List.range t.parts.length).map (t.psz (szs p))))), some (.ref R), some (.tup (encPs t.parts)), some (.tup (t.stands.map W.int)), y, some (.int ((t.beg (szs p) i + (((t.part i).take j).map (sizeOf' (szs p))).sum : Nat) : Int)), u, none]) ∧ M' = mup (mup M L (.lst ((List.range t.parts.length).map fun i => .lst (wInts (t.down i))))) R (.lst (foundL p t ((t.parts.take i).flatten ++ (t.part i).take j)))) (fun _ _ _ _ => trivial) _ 0 ⟨⟨u, rfl⟩, by rw [List.take_zero, List.append_nil]⟩ (fun j w σ M' K2 hw h hK2 => ?_) (fun σ M' h => ?_)
          · obtain ⟨⟨u, rfl⟩, rfl⟩ := h
            rw [Nat.zero_add] at hK2 ⊢
            unfold wInts at hw
            rw [List.getElem?_map] at hw
            cases hj : (t.part i)[j]? with
            | none => rw [hj] at hw; cases hw
            | some f =>
            rw [hj] at hw
            cases hw
            have hfm : f ∈ t.part i := List.mem_of_getElem? hj
            have hfp := ok.part_lt hi hfm
            have hpof : t.pof f = i := ok.pof_eq (part_get hi) hfm
            have hcell : t.cell (szs p) f = t.beg (szs p) i + (((t.part i).take j).map (sizeOf' (szs p))).sum := by
              unfold Tr.cell
              rw [hpof, takeW (ok.nodup (part_mem hi)) hj]
            have htk : (t.part i).take (j + 1) = (t.part i).take j ++ [f] := by rw [List.take_succ, hj]; rfl
            have hcw : (W.tup [.int ((t.beg (szs p) i + (((t.part i).take j).map (sizeOf' (szs p))).sum : Nat) : Int), .lst (wInts (t.down i))]) = cellW p t f := by
              unfold cellW
              rw [hcell, hpof]
            have hff : f < (foundL p t ((t.parts.take i).flatten ++ (t.part i).take j)).length := by unfold foundL; simpa using hfp
            simp only [evs_, c_l_laid_13, idx_ref (hL1 _), hda]
            refine ⟨by decide, _, mup_at, f, by simp [ixN, hff], ?_⟩
            have hcw' := hcw
            rw [Int.natCast_add] at hcw'
            rw [mup_mup, hcw', found_set hfp]
            simp only [evs_, c_l_laid_14, prog_at hfp, encF]
            refine hK2 _ _ ⟨⟨some (.int f), ?_⟩, ?_⟩
            · rw [htk, List.map_append, List.sum_append]
              have := size_of_at hfp
              simp [this]
              omega
            · rw [htk, List.append_assoc]
          · obtain ⟨⟨u, rfl⟩, rfl⟩ := h
            refine hK _ _ ⟨⟨_, _, _, _, rfl⟩, ?_⟩
            rw [Nat.zero_add, wInts_len, List.take_length, List.take_succ, part_get hi]
            simp
      · obtain ⟨⟨x, y, z, u, rfl⟩, rfl⟩ := h
        rw [List.take_length, found_all ok]
        simp only [evs_, c_l_laid_6, dLc, wipeW]
        have m1 : ∀ c o, M c = some o → mup (mup M L (.lst ((List.range t.parts.length).map fun i => .lst (wInts (t.down i))))) R (.lst ((List.range p.length).map (cellW p t))) c = some o := fun c o hc => by
          rw [mup_off (fun z => by rw [z, hR0] at hc; cases hc), mup_off (fun z => by rw [z, hL] at hc; cases hc)]; exact hc
        have mL : mup (mup M L (.lst ((List.range t.parts.length).map fun i => .lst (wInts (t.down i))))) R (.lst ((List.range p.length).map (cellW p t))) L = some (.lst ((List.range t.parts.length).map fun i => .lst (wInts (t.down i)))) := by rw [mup_off (Ne.symm nRL), mup_at]
        have mR : mup (mup M L (.lst ((List.range t.parts.length).map fun i => .lst (wInts (t.down i))))) R (.lst ((List.range p.length).map (cellW p t))) R = some (.lst ((List.range p.length).map (cellW p t))) := mup_at
        generalize mup (mup M L (.lst ((List.range t.parts.length).map fun i => .lst (wInts (t.down i))))) R (.lst ((List.range p.length).map (cellW p t))) = M1 at m1 mL mR ⊢
        have hxs : (List.range t.parts.length).map (fun i => W.lst (wInts (t.down i))) = ((List.range t.parts.length).map fun i => (W.lst (wInts (t.down i)), some (W.int (t.fin (szs p) i : Nat)))).map (·.1) := by rw [List.map_map]; rfl
        refine ⟨_, mL, by simp; exact szl (by omega), fun D hD => ?_⟩
        have nDL : L ≠ D := fun z => by rw [z, hD] at mL; cases mL
        refine ⟨by rw [mup_off nDL]; exact mL, ?_⟩
        rw [hxs]
        refine lc_pairs hD (fun acc => by rw [mup_off nDL, ← hxs]; exact mL) _ [] (fun pr hp us => ?_) ?_
        · obtain ⟨i, hi, rfl⟩ := List.mem_map.mp hp
          have hi := List.mem_range.mp hi
          have hdl : (t.down i).length ≤ 8 := by unfold Tr.down; rw [List.length_reverse]; have := t.ups_len i; omega
          refine ⟨_, rfl, fun R h => h, fun y hy R h => ?_⟩
          cases hy
          simp only [evs_, dLc, wipeW, wInts_len]
          refine ⟨szl (by omega), lc_of ((t.down i).map fun j : Nat => (W.int j, some (W.int (t.psz (szs p) j : Nat)))) (by unfold wInts; rw [List.map_map]; rfl) (fun _ _ _ => trivial) (fun D2 hD2 pr2 hp2 us2 => ?_) ?_⟩
          · obtain ⟨j, hj, rfl⟩ := List.mem_map.mp hp2
            have hjl := ok.ups_lt i hi j (List.mem_reverse.mp hj)
            refine ⟨_, rfl, fun R h => h, fun y hy R h => ?_⟩
            cases hy
            have : atI (wInts ((List.range t.parts.length).map (t.psz (szs p)))) (j : Int) = some (.int (t.psz (szs p) j : Nat)) := by
              refine atN ?_
              unfold wInts
              rw [List.map_map, List.getElem?_map, List.getElem?_range hjl]
              rfl
            simp only [evs_, this]
            exact h
          · rw [fm_nat]
            refine sumW_nat ?_
            have : ((t.down i).map (t.psz (szs p))).sum = t.fin (szs p) i := by
              unfold Tr.down Tr.fin
              rw [List.map_reverse, List.sum_reverse]
            rw [this]
            exact h
        · rw [List.nil_append, fm_nat]
          refine fin_pure hD ?_
          have hpos := ok.pos (by omega)
          refine ⟨natI ((List.range t.parts.length).map (t.fin (szs p))), show _ = _ from wInts_eq _, by unfold natI; simp; exact hpos, fun m hm hall => ?_⟩
          obtain ⟨v, rfl, hv⟩ := mem_ints'.mp hm
          have e1 : v = t.want (szs p) := max_is hv fun y hy => by
            have := hall y (mem_ints.mpr hy)
            omega
          rw [e1]
          refine ⟨by decide, _, _, .tup (.cons (.lst mR .keep) .keep), M, fun c o hc => ?_, q⟩
          unfold mdelL
          rw [if_neg]
          · exact m1 c o hc
          · simp
            exact fun z => by rw [z, hR0] at hc; cases hc
end WL
namespace WL

abbrev Mrk := Nat × Nat
def Tr.mks (t : Tr) (z : Szs) (i : Nat) : List Mrk := (t.part i).flatMap fun f => (List.range (sizeOf' z f)).map fun k => (f, k)
theorem mk_len {t : Tr} {z : Szs} {i : Nat} : (t.mks z i).length = t.psz z i := by
  unfold Tr.mks Tr.psz
  induction t.part i with
  | nil => rfl
  | cons f l ih => rw [List.flatMap_cons, List.length_append, ih, List.map_cons, List.sum_cons, List.length_map, List.length_range]
abbrev Ls := Nat → Option Mrk
def Tr.inR (t : Tr) (z : Szs) (i c : Nat) : Prop := t.beg z i ≤ c ∧ c < t.beg z i + t.psz z i
def Tr.isIn (t : Tr) (z : Szs) (L : Ls) (i : Nat) : Prop := ∀ (j : Nat) (m : Mrk), (t.mks z i)[j]? = some m → L (t.beg z i + j) = some m
noncomputable def Tr.isB (t : Tr) (z : Szs) (L : Ls) (i : Nat) : Bool := @decide (t.isIn z L i) (Classical.propDecidable _)
theorem isB_iff {t : Tr} {z : Szs} {L : Ls} {i : Nat} : t.isB z L i = true ↔ t.isIn z L i := by unfold Tr.isB; simp
noncomputable def Tr.thB (t : Tr) (z : Szs) (L : Ls) (f : Nat) : Bool := @decide (∀ i ∈ t.ups (t.pof f), t.isIn z L i) (Classical.propDecidable _)
theorem thB_iff {t : Tr} {z : Szs} {L : Ls} {f : Nat} : t.thB z L f = true ↔ ∀ i ∈ t.ups (t.pof f), t.isIn z L i := by unfold Tr.thB; simp
def Tr.brg (t : Tr) (z : Szs) (L : Ls) (i m : Nat) : Ls := fun c => if t.beg z i ≤ c ∧ c < t.beg z i + m then (t.mks z i)[c - t.beg z i]? else L c
theorem brg_zero {t : Tr} {z : Szs} {L : Ls} {i : Nat} : t.brg z L i 0 = L := by
  funext c
  unfold Tr.brg
  rw [if_neg (by omega)]
theorem brg_succ {t : Tr} {z : Szs} {L : Ls} {i m : Nat} {v : Mrk} (h : (t.mks z i)[m]? = some v) : t.brg z L i (m + 1) = fun c => if c = t.beg z i + m then some v else t.brg z L i m c := by
  funext c
  unfold Tr.brg
  by_cases e : c = t.beg z i + m
  · subst e
    rw [if_pos (by omega), if_pos rfl, ← h]
    congr 1
    omega
  · rw [if_neg e]
    by_cases e2 : t.beg z i ≤ c ∧ c < t.beg z i + m
    · rw [if_pos e2, if_pos (by omega)]
    · rw [if_neg e2, if_neg (by omega)]
theorem brg_in {t : Tr} {z : Szs} {L : Ls} {i : Nat} : t.isIn z (t.brg z L i (t.psz z i)) i := by
  intro j m h
  have := (List.getElem?_eq_some_iff.mp h).1
  rw [mk_len] at this
  unfold Tr.brg
  rw [if_pos (by omega), ← h]
  congr 1
  omega
theorem brg_off {t : Tr} {z : Szs} {L : Ls} {i c : Nat} (h : ¬ t.inR z i c) : t.brg z L i (t.psz z i) c = L c := by
  unfold Tr.brg
  exact if_neg h
theorem isIn_same {t : Tr} {z : Szs} {L L' : Ls} {i : Nat} (h : ∀ c, t.inR z i c → L' c = L c) (hi : t.isIn z L i) : t.isIn z L' i := by
  intro j m e
  have := (List.getElem?_eq_some_iff.mp e).1
  rw [mk_len] at this
  rw [h _ ⟨by omega, by omega⟩]
  exact hi j m e
structure Looked (t : Tr) (z : Szs) (ds : List Nat) (L : Ls) (found : List Nat) (L' : Ls) : Prop where
  fd : ∀ i ∈ found, i ∈ ds ∧ ¬ t.isIn z L i
  isin : ∀ i ∈ ds, t.isIn z L' i
  off : ∀ c, (∀ i ∈ ds, ¬ t.inR z i c) → L' c = L c
  nil : found = [] → L' = L
  fil : found = ds.filter fun i => !t.isB z L i
  to : L' = found.foldl (fun L i => t.brg z L i (t.psz z i)) L
theorem Looked.zero {t : Tr} {z : Szs} {L : Ls} : Looked t z [] L [] L := ⟨by simp, by simp, fun _ _ => rfl, fun _ => rfl, rfl, rfl⟩
theorem Looked.det {t : Tr} {z : Szs} {ds : List Nat} {L : Ls} {f f2 : List Nat} {L1 L2 : Ls} (h : Looked t z ds L f L1) (h2 : Looked t z ds L f2 L2) : f = f2 ∧ L1 = L2 := by
  have e : f = f2 := h.fil.trans h2.fil.symm
  exact ⟨e, by rw [h.to, h2.to, e]⟩
theorem Looked.same {t : Tr} {z : Szs} {ds found : List Nat} {L L' : Ls} {i : Nat} (h : Looked t z ds L found L') (hd : ∀ j ∈ ds, t.beg z j + t.psz z j ≤ t.beg z i) : t.isB z L i = t.isB z L' i := by
  have off : ∀ c, t.inR z i c → L' c = L c := fun c hc => h.off c fun k hk hkc => by
    have := hd k hk
    unfold Tr.inR at hc hkc
    omega
  rw [Bool.eq_iff_iff, isB_iff, isB_iff]
  exact ⟨isIn_same off, isIn_same fun c hc => (off c hc).symm⟩
theorem Looked.keep {t : Tr} {z : Szs} {ds found : List Nat} {L L' : Ls} {i : Nat} (h : Looked t z ds L found L') (hi : t.isIn z L' i) (hd : ∀ j ∈ ds, t.beg z j + t.psz z j ≤ t.beg z i) : Looked t z (ds ++ [i]) L found L' := by
  refine ⟨fun j hj => ⟨List.mem_append_left _ (h.fd j hj).1, (h.fd j hj).2⟩, fun j hj => ?_, fun c hc => h.off c fun j hj => hc j (List.mem_append_left _ hj), h.nil, ?_, h.to⟩
  rotate_left
  · rw [List.filter_append, ← h.fil]
    simp [h.same hd, isB_iff.mpr hi]
  rcases List.mem_append.mp hj with e | e
  · exact h.isin j e
  · rw [List.mem_singleton.mp e]; exact hi
theorem Looked.bring {t : Tr} {z : Szs} {ds found : List Nat} {L L' : Ls} {i : Nat} (h : Looked t z ds L found L') (hi : ¬ t.isIn z L' i) (hd : ∀ j ∈ ds, t.beg z j + t.psz z j ≤ t.beg z i) : Looked t z (ds ++ [i]) L (found ++ [i]) (t.brg z L' i (t.psz z i)) := by
  refine ⟨fun j hj => ?_, fun j hj => ?_, fun c hc => ?_, fun e => by simp at e, ?_, ?_⟩
  · rcases List.mem_append.mp hj with e | e
    · exact ⟨List.mem_append_left _ (h.fd j e).1, (h.fd j e).2⟩
    · rw [List.mem_singleton.mp e]
      refine ⟨by simp, fun hL => hi (isIn_same (fun c hc => h.off c fun k hk hkc => ?_) hL)⟩
      have := hd k hk
      unfold Tr.inR at hc hkc
      omega
  · rcases List.mem_append.mp hj with e | e
    · refine isIn_same (fun c hc => brg_off fun hic => ?_) (h.isin j e)
      have := hd j e
      unfold Tr.inR at hc hic
      omega
    · rw [List.mem_singleton.mp e]; exact brg_in
  · rw [brg_off (hc i (by simp))]
    exact h.off c fun j hj => hc j (List.mem_append_left _ hj)
  · have : t.isB z L' i = false := by
      cases e : t.isB z L' i with
      | false => rfl
      | true => exact absurd (isB_iff.mp e) hi
    rw [List.filter_append, ← h.fil]
    simp [h.same hd, this]
  · rw [List.foldl_append, ← h.to]
    rfl
theorem ups_suf {m : Nat} {t : Tr} (ok : t.Ok m) : ∀ i, i < t.parts.length → ∀ j ∈ t.ups i, ∃ l, t.ups i = l ++ t.ups j := by
  refine ok.ind fun i hi ih j hj => ?_
  have hu := ok.ups hi
  rw [hu] at hj ⊢
  rcases List.mem_cons.mp hj with rfl | hj
  · exact ⟨[], hu.symm ▸ rfl⟩
  · by_cases h0 : 0 ≤ t.st i
    · rw [if_pos h0] at hj ⊢
      obtain ⟨l, e⟩ := ih h0 j hj
      exact ⟨i :: l, by rw [e]; rfl⟩
    · rw [if_neg h0] at hj; cases hj
theorem fin_up {m : Nat} {t : Tr} (ok : t.Ok m) (z : Szs) {i j : Nat} (hi : i < t.parts.length) (hj : j ∈ t.ups i) : t.fin z j ≤ t.fin z i := by
  obtain ⟨l, e⟩ := ups_suf ok i hi j hj
  unfold Tr.fin
  rw [e, List.map_append, List.sum_append]
  omega
theorem ups_pw {m : Nat} {t : Tr} (ok : t.Ok m) (z : Szs) : ∀ i, i < t.parts.length → (t.ups i).Pairwise fun a b => t.fin z b ≤ t.beg z a := by
  refine ok.ind fun i hi ih => ?_
  rw [ok.ups hi]
  by_cases h0 : 0 ≤ t.st i
  · rw [if_pos h0, List.pairwise_cons]
    refine ⟨fun b hb => ?_, ih h0⟩
    rw [ok.beg z hi, if_pos h0]
    exact fin_up ok z (ok.st_lt h0) hb
  · rw [if_neg h0]
    simp
theorem down_pw {m : Nat} {t : Tr} (ok : t.Ok m) (z : Szs) {i : Nat} (hi : i < t.parts.length) : (t.down i).Pairwise fun a b => t.beg z a + t.psz z a ≤ t.beg z b := by
  unfold Tr.down
  rw [List.pairwise_reverse]
  refine (List.Pairwise.and_mem.mp (ups_pw ok z i hi)).imp fun {a b} h => ?_
  have := ok.fin z (ok.ups_lt i hi b h.2.1)
  omega
theorem mem_down {t : Tr} {i j : Nat} : j ∈ t.down i ↔ j ∈ t.ups i := by unfold Tr.down; simp
theorem look_there {m : Nat} {t : Tr} {z : Szs} (ok : t.Ok m) {f g : Nat} {L L' : Ls} {found : List Nat} (hf : f < m) (h : Looked t z (t.down (t.pof f)) L found L') (hg : t.pof g ∈ t.ups (t.pof f)) : t.thB z L' g = true := by
  rw [thB_iff]
  intro i hi
  obtain ⟨l, e⟩ := ups_suf ok _ (ok.pof_lt hf) _ hg
  exact h.isin i (mem_down.mpr (by rw [e]; exact List.mem_append_right _ hi))
theorem look_kept {m : Nat} {t : Tr} {z : Szs} (ok : t.Ok m) {f g : Nat} {L L' : Ls} {found : List Nat} (hg : g < m) (h : Looked t z (t.down (t.pof f)) L found L') (hb : t.thB z L g = true) (hu : t.pof f ∈ t.ups (t.pof g)) : t.thB z L' g = true := by
  rw [thB_iff] at hb ⊢
  intro i hi
  have hgl := ok.pof_lt hg
  obtain ⟨l, e⟩ := ups_suf ok _ hgl _ hu
  have hi' := hi
  rw [e] at hi'
  rcases List.mem_append.mp hi' with z1 | z1
  · refine isIn_same (fun c hc => h.off c fun j hj hjc => ?_) (hb i hi)
    have pw := ups_pw ok z _ hgl
    rw [e, List.pairwise_append] at pw
    have h1 := pw.2.2 i z1 j (mem_down.mp hj)
    have h2 := ok.fin z (i := j) (ok.ups_lt _ hgl j (by rw [e]; exact List.mem_append_right _ (mem_down.mp hj)))
    unfold Tr.inR at hc hjc
    omega
  · exact h.isin i (mem_down.mpr z1)
theorem look_none {t : Tr} {z : Szs} {f : Nat} {L L' : Ls} {found : List Nat} (h : Looked t z (t.down (t.pof f)) L found L') (hb : t.thB z L f = true) : found = [] := by
  rw [thB_iff] at hb
  cases found with
  | nil => rfl
  | cons i l => exact absurd (hb i (mem_down.mp (h.fd i (by simp)).1)) (h.fd i (by simp)).2
theorem look_again {t : Tr} {z : Szs} {ds : List Nat} {L L' L2 : Ls} {found f2 : List Nat} (h : Looked t z ds L found L') (h2 : Looked t z ds L' f2 L2) : f2 = [] := by
  cases f2 with
  | nil => rfl
  | cons i l => exact absurd (h.isin i (h2.fd i (by simp)).1) (h2.fd i (by simp)).2
theorem look_far {m : Nat} {t : Tr} {z : Szs} (ok : t.Ok m) {f c : Nat} {L L' : Ls} {found : List Nat} (hf : f < m) (h : Looked t z (t.down (t.pof f)) L found L') (hc : t.want z ≤ c) : L' c = L c := by
  refine h.off c fun i hi hic => ?_
  have hl := ok.ups_lt _ (ok.pof_lt hf) i (mem_down.mp hi)
  have h1 := Tr.fin_le (z := z) hl
  have h2 := ok.fin z hl
  unfold Tr.inR at hic
  omega
end WL
namespace WL
open PySem L2
local macro_rules | `(tactic| simp only [evs_, $xs,*]) => `(tactic| simp only [dX, dXs, dXo, dXi, dSc, d2, d1, dN, dVar, dC, dTup, dLst, dTru, dB, dChain, dIte, dNotV, dNotT, dJoinV, dJoinT, dNil, dCons, dCall, dBM, dIsi, dIsi2, dAttr, dMeth, dNew, dDget, dDin, dDnew, dKidx, dKin, dKget, dDisp, dFrz, dRev, dLrg, dSset, dSlice, dNoPart, dPart, dDfz, dRaise, dTry, dCatch, dKind, isx_eq, xfl_eq, dIsc, Gam.low, dAsg, dExpr, dRet, dIf, dFld, dSet, dDput, dNever, dFor, dNext, binP, cmpP, iSeqD, iRg1, iRg2, iZip, iEnumD, Tg.asg, setAll, List.set, List.map_cons, List.map_nil, subW, modW, fdivW, powW, ltW, leW, gtW, geW, newL, finD, frzO, tupW, listW, oneW, twoW, BI.w, ints_eq, add_int, add_str, add_tup, add_lst, mul_int, mul_lst, mul_tup, idx_tup, idx_lst, idx_scr, idx_str, len_tup, len_lst, len_scr, len_str, sl_tup, sl_lst, neg_int, str_int, str_str, int_int, int_bl, is_non, is_int, is_str, is_tup, is_lst, is_bl, is_bb, dss_cons, eq_int, eq_str, eq_bl, ne_int, ne_str, ne_bl, eq_nilL, ty_non, ty_bl, ty_int, ty_str, ty_tup, ty_lst, ty_scr, ty_dk, Ty.sub, tr_bl, tr_non, tr_int, tr_str, sv_lst, sv_tup, sv_scr, lv_lst, at0, at1, at2, cut1, len0, ss_nil, for_nil, for_cons, pairs_cons, pairs_nil, pairs_nil', walk_lst, walk_scr, walk_tup, walk_str, walk_ref, List.getElem?_cons_zero, List.getElem?_cons_succ, List.length_cons, List.length_nil, List.append_nil, List.cons_append, List.nil_append, Option.some.injEq, W.int.injEq, W.str.injEq, W.bl.injEq, W.tup.injEq, W.lst.injEq, W.ref.injEq, List.cons.injEq, Option.map_some, exists_and_left, exists_and_right, exists_eq_left, exists_eq_left', exists_eq, exists_eq', exists_eq_right, exists_eq_right', and_true, true_and, and_assoc, reduceIte, reduceCtorEq, decide_true, decide_false, decide_eq_true_eq, decide_eq_false_iff_not, Bool.not_eq_true', Bool.not_eq_false', Bool.true_eq_false, Bool.false_eq_true, if_true, if_false, Bool.not_true, Bool.not_false, ite_true, ite_false, Int.cast_ofNat_Int, Int.reduceAdd, Int.reduceSub, Int.reduceEq, Int.reduceLT, Int.reduceLE, Int.natCast_add, Nat.reduceEqDiff, Nat.reduceAdd, Nat.add_zero, Nat.zero_add, Nat.succ_ne_zero, not_true_eq_false, not_false_eq_true, Option.getD_some, Option.getD_none, Option.isSome_some, Option.isSome_none, $xs,*])
def c_need_room_1 : Ss := .cons (.raise 4) .nil
def c_need_room : Ss := .cons (.ite (.not (.call 0 (.cons (.var 0) (.cons (.lit (.int 1)) (.cons (.glob 7) .nil))))) c_need_room_1 .nil) .nil
def n_need_room : List Str := ["room"]
def c_Hall_ini_7 : Ss := .cons (.raise 4) .nil
def c_Hall_ini_6 : Ss := .cons (.fld (.var 0) "many" (.lit (.int 0))) .nil
def c_Hall_ini_5 : Ss := .cons (.fld (.var 0) "lies" (.bin .Mult true (.lst false (.cons (.lit .non) .nil)) (.var 3))) c_Hall_ini_6
def c_Hall_ini_4 : Ss := .cons (.ite (.cmp .Lt (.var 3) (.meth 8 (.attr (.var 0) "laid") .nil)) c_Hall_ini_7 .nil) c_Hall_ini_5
def c_Hall_ini_3 : Ss := .cons (.fld (.var 0) "laid" (.dfz (.new true 16 (.cons (.var 1) (.cons (.var 2) .nil))))) c_Hall_ini_4
def c_Hall_ini_2 : Ss := .cons (.fld (.var 0) "program" (.var 1)) c_Hall_ini_3
def c_Hall_ini_1 : Ss := .cons (.expr (.call 23 (.cons (.var 3) .nil))) c_Hall_ini_2
def c_Hall_ini : Ss := .cons (.expr (.call 18 (.cons (.var 1) (.cons (.var 2) .nil)))) c_Hall_ini_1
def n_Hall_ini : List Str := ["self", "program", "tree", "room"]
def c_Hall_marks_4 : Ss := .cons (.expr (.bm true .extend (.var 2) (.cons (.lc false (.tup (.cons (.bin .Add false (.var 4) (.var 5)) (.cons (.tup (.cons (.var 3) (.cons (.var 5) .nil))) .nil))) (.name 5) (.rg1 (.idx (.attr (.attr (.var 0) "laid") "sizes") (.var 3))) .none [("k", 5)]) .nil))) .nil
def c_Hall_marks_3 : Ss := .cons (.asg (.name 4) (.dget (.attr (.attr (.var 0) "laid") "first") (.var 3))) c_Hall_marks_4
def c_Hall_marks_2 : Ss := .cons (.ret (.frz (.var 2))) .nil
def c_Hall_marks_1 : Ss := .cons (.for_ (.name 3) (.seq (.idx (.attr (.attr (.var 0) "laid") "parts") (.var 1))) c_Hall_marks_3) c_Hall_marks_2
def c_Hall_marks : Ss := .cons (.asg (.name 2) (.lst true .nil)) c_Hall_marks_1
def n_Hall_marks : List Str := ["self", "part", "found", "function", "first", "k"]
def c_Hall_is_in : Ss := .cons (.ret (.cmp .Eq (.lc false (.var 2) (.tup [2, 3]) (.seq (.meth 9 (.var 0) (.cons (.var 1) .nil))) (.some (.cmp .NotEq (.idx (.attr (.var 0) "lies") (.var 2)) (.var 3))) [("cell", 2), ("mark", 3)]) (.lst false .nil))) .nil
def n_Hall_is_in : List Str := ["self", "part", "cell", "mark"]
def c_Hall_look_8 : Ss := .cons (.fld (.var 0) "many" (.bin .Add false (.attr (.var 0) "many") (.lit (.int 1)))) .nil
def c_Hall_look_7 : Ss := .cons (.set (.attr (.var 0) "lies") (.var 4) (.var 5)) c_Hall_look_8
def c_Hall_look_6 : Ss := .cons (.for_ (.tup [4, 5]) (.seq (.meth 9 (.var 0) (.cons (.var 3) .nil))) c_Hall_look_7) .nil
def c_Hall_look_5 : Ss := .cons (.expr (.bm true .append (.var 2) (.cons (.var 3) .nil))) c_Hall_look_6
def c_Hall_look_4 : Ss := .cons (.ite (.not (.meth 10 (.var 0) (.cons (.var 3) .nil))) c_Hall_look_5 .nil) .nil
def c_Hall_look_3 : Ss := .cons (.ret (.frz (.var 2))) .nil
def c_Hall_look_2 : Ss := .cons (.for_ (.name 3) (.seq (.dfz (.meth 7 (.attr (.var 0) "laid") (.cons (.var 1) .nil)))) c_Hall_look_4) c_Hall_look_3
def c_Hall_look_1 : Ss := .cons (.asg (.name 2) (.lst true .nil)) c_Hall_look_2
def c_Hall_look : Ss := .cons (.expr (.call 19 (.cons (.attr (.var 0) "program") (.cons (.var 1) .nil)))) c_Hall_look_1
def n_Hall_look : List Str := ["self", "function", "found", "part", "cell", "mark"]
def c_Hall_there_1 : Ss := .cons (.ret (.cmp .Eq (.lc false (.var 2) (.name 2) (.seq (.dfz (.meth 7 (.attr (.var 0) "laid") (.cons (.var 1) .nil)))) (.some (.not (.meth 10 (.var 0) (.cons (.var 2) .nil)))) [("part", 2)]) (.lst false .nil))) .nil
def c_Hall_there : Ss := .cons (.expr (.call 19 (.cons (.attr (.var 0) "program") (.cons (.var 1) .nil)))) c_Hall_there_1
def n_Hall_there : List Str := ["self", "function", "part"]
def c_Hall_cells : Ss := .cons (.ret (.blt false .list (.cons (.attr (.var 0) "lies") .nil))) .nil
def n_Hall_cells : List Str := ["self"]
def c_Hall_brought : Ss := .cons (.ret (.attr (.var 0) "many")) .nil
def n_Hall_brought : List Str := ["self"]
def encM (m : Mrk) : W := .tup [.int (m.1 : Nat), .int (m.2 : Nat)]
def encO : Option Mrk → W
  | none => .non
  | some m => encM m
def liesW (room : Nat) (L : Ls) : List W := (List.range room).map fun c => encO (L c)
theorem lies_len {room : Nat} {L : Ls} : (liesW room L).length = room := by unfold liesW; simp
theorem lies_at {room c : Nat} {L : Ls} (h : c < room) : atI (liesW room L) (c : Int) = some (encO (L c)) := atN (by unfold liesW; rw [List.getElem?_map, List.getElem?_range h]; rfl)
theorem lies_set {room c : Nat} {L : Ls} {v : Mrk} : (liesW room L).set c (encM v) = liesW room fun d => if d = c then some v else L d := by
  unfold liesW
  refine List.ext_getElem? fun a => ?_
  by_cases e : c = a
  · subst e
    by_cases hc : c < room
    · rw [List.getElem?_set_self (by simpa using hc), List.getElem?_map, List.getElem?_range hc]
      simp [encO]
    · rw [List.getElem?_eq_none (by simp; omega), List.getElem?_eq_none (by simp; omega)]
  · rw [List.getElem?_set_ne e, List.getElem?_map, List.getElem?_map]
    by_cases ha : a < room
    · rw [List.getElem?_range ha]
      simp [Ne.symm e]
    · rw [List.getElem?_eq_none (by simp; omega)]; rfl
theorem pl_encM {n : Nat} {m : Mrk} : PlW (n + 1) (encM m) := pl_tup (pls_cons pl_int (pls_cons pl_int pls_nil))
theorem pl_encO {n : Nat} {m : Option Mrk} : PlW (n + 1) (encO m) := by
  cases m with
  | none => exact pl_non
  | some m => exact pl_encM
theorem ne_mark {o : Option Mrk} {m : Mrk} {M : Mh} {Q : QW} : neV_ (encO o) (encM m) M Q = Q (.bl (!decide (o = some m))) M := by
  have e : eqB (encO o) (encM m) = decide (o = some m) := by
    cases o with
    | none => simp [eqB, encO, encM, dat, dats, PyData.eqv, PyData.eqvAll]
    | some v =>
      obtain ⟨a, b⟩ := v
      obtain ⟨c, d⟩ := m
      have hb : ∀ x y : Nat, ((x : Int) == (y : Int)) = decide (x = y) := fun x y => by rw [Bool.eq_iff_iff]; simp; omega
      simp [eqB, encO, encM, dat, dats, PyData.eqv, PyData.eqvAll, hb]
  rw [← e]
  cases o with
  | none => exact nev_of fun c => eqW_fall (pl_encO (n := 63) (m := none)) (pl_encM (n := 63)) rfl rfl
  | some v => exact nev_of fun c => eqW_fall (pl_encM (n := 63)) (pl_encM (n := 63)) rfl rfl
structure HD where
  p : List (Nat × Bd)
  t : Tr
  os : List Nat
  e : Addr
  room : Nat
  x : Addr
  l : Addr
structure HD.Ok (h : HD) : Prop where
  pok : PrOk h.p
  ok : h.t.Ok h.p.length
  far : h.t.want (szs h.p) ≤ h.room
  r64 : h.room ≤ 64
def HFs (h : HD) (many : Nat) : List (Str × W) := [("program", encP h.p), ("laid", laidW h.p h.t h.os h.e), ("lies", .ref h.l), ("many", .int many)]
structure HallAt (h : HD) (L : Ls) (many : Nat) (M : Mh) : Prop where
  hx : M h.x = some (.ins 17 (HFs h many))
  hl : M h.l = some (.lst (liesW h.room L))
theorem HallAt.ne {h : HD} {L : Ls} {many : Nat} {M : Mh} (H : HallAt h L many M) : h.x ≠ h.l := fun z => by
  have := H.hx
  rw [z, H.hl] at this
  cases this
theorem HallAt.at_ne {h : HD} {L : Ls} {many : Nat} {M : Mh} (H : HallAt h L many M) {c : Addr} (hc : M c = none) : c ≠ h.x ∧ c ≠ h.l := ⟨fun z => (by rw [z, H.hx] at hc; cases hc), fun z => (by rw [z, H.hl] at hc; cases hc)⟩
theorem HallAt.up {h : HD} {L : Ls} {many : Nat} {M : Mh} (H : HallAt h L many M) {c : Addr} {o : MO} (n1 : c ≠ h.x) (n2 : c ≠ h.l) : HallAt h L many (mup M c o) := ⟨by rw [mup_off (Ne.symm n1)]; exact H.hx, by rw [mup_off (Ne.symm n2)]; exact H.hl⟩
theorem HallAt.new {h : HD} {L : Ls} {many : Nat} {M : Mh} (H : HallAt h L many M) {c : Addr} {o : MO} (hc : M c = none) : HallAt h L many (mup M c o) := H.up (H.at_ne hc).1 (H.at_ne hc).2
theorem HallAt.fr {h : HD} {L : Ls} {many : Nat} {M M' : Mh} {a s : Addr} (H : HallAt h L many M) (f : Fr a s M M') (n1 : h.x ≠ a) (n2 : h.x ≠ s) (n3 : h.l ≠ a) (n4 : h.l ≠ s) : HallAt h L many M' := ⟨f _ _ H.hx n1 n2, f _ _ H.hl n3 n4⟩
theorem hf_program {h : HD} {m : Nat} : lookF (HFs h m) "program" = some (encP h.p) := rfl
theorem hf_laid {h : HD} {m : Nat} : lookF (HFs h m) "laid" = some (laidW h.p h.t h.os h.e) := rfl
theorem hf_lies {h : HD} {m : Nat} : lookF (HFs h m) "lies" = some (.ref h.l) := rfl
theorem hf_many {h : HD} {m : Nat} : lookF (HFs h m) "many" = some (.int m) := rfl
theorem hall_nm : ∀ m : Str, m ∈ ([("marks" : Str), ("is_in" : Str), ("look" : Str), ("there" : Str), ("cells" : Str), ("brought" : Str)]) → m ∉ ([("program" : Str), ("laid" : Str), ("lies" : Str), ("many" : Str)]) := by decide
theorem fin_lt {m : Nat} {t : Tr} (ok : t.Ok m) {z : Szs} {i j : Nat} (hi : i < t.parts.length) (hj : j < t.psz z i) : t.beg z i + j < t.want z := by
  have h1 := Tr.fin_le (z := z) hi
  have h2 := ok.fin z hi
  omega
def mkW (b : Nat) (ms : List Mrk) : List W := (ms.zipIdx b).map fun mc => .tup [.int (mc.2 : Nat), encM mc.1]
def marksW (t : Tr) (z : Szs) (i : Nat) : List W := mkW (t.beg z i) (t.mks z i)
theorem mkW_app {b : Nat} {a c : List Mrk} : mkW b (a ++ c) = mkW b a ++ mkW (b + a.length) c := by unfold mkW; rw [List.zipIdx_append, List.map_append]
theorem mkW_len {b : Nat} {a : List Mrk} : (mkW b a).length = a.length := by unfold mkW; simp
theorem mkW_get {b j : Nat} {a : List Mrk} {w : W} (h : (mkW b a)[j]? = some w) : ∃ m, a[j]? = some m ∧ w = .tup [.int ((b + j : Nat) : Int), encM m] := by
  unfold mkW at h
  rw [List.getElem?_map, List.getElem?_zipIdx] at h
  cases e : a[j]? with
  | none => rw [e] at h; cases h
  | some m => rw [e] at h; cases h; exact ⟨m, rfl, rfl⟩
def sp_need_room : Nat → Wp := fun k ws M Q Ex => ∃ r : Int, ws = [.int r] ∧ 1 ≤ k ∧ (1 ≤ r ∧ r ≤ 64 → Q .non M) ∧ (¬ (1 ≤ r ∧ r ≤ 64) → Ex ⟨4, []⟩ M)
theorem keep_need_room {Γ : Gam} {k : Nat} (f_is_number : Γ.fn 0 = dn sp_is_number k) (g_MOST_ROOM : Γ.gl 7 = .int 64) : KeepC Γ n_need_room 1 c_need_room (sp_need_room k) := by
  rintro ws M Q Ex ⟨r, rfl, hk, q, x⟩
  refine ⟨rfl, ?_⟩
  show dSs Γ _ _ [some (.int r)] M
  cases k with
  | zero => omega
  | succ k =>
  simp only [evs_, c_need_room_1, c_need_room, f_is_number, g_MOST_ROOM, dn]
  refine ⟨r, 1, 64, rfl, ?_⟩
  simp only [evs_, dX]
  by_cases h : 1 ≤ r ∧ r ≤ 64
  · simp only [evs_, h.1, h.2, Bool.and_true]
    exact q h
  · have : (decide (1 ≤ r) && decide (r ≤ 64)) = false := by
      rw [Bool.eq_false_iff]
      intro z
      simp only [Bool.and_eq_true, decide_eq_true_eq] at z
      exact h z
    simp only [evs_, this]
    exact x h
def sp_Hall_marks : Nat → Wp := fun _ ws M Q _ => ∃ (h : HD) (L : Ls) (many i : Nat), ws = [.ref h.x, .int i] ∧ h.Ok ∧ HallAt h L many M ∧ i < h.t.parts.length ∧ Q (.lst (marksW h.t (szs h.p) i)) M
theorem le_sumN : ∀ {l : List Nat} {x : Nat}, x ∈ l → x ≤ l.sum
  | a :: l, x, h => by
    rw [List.sum_cons]
    rcases List.mem_cons.mp h with rfl | h
    · omega
    · have := le_sumN h; omega
theorem sum_takeN : ∀ (l : List Nat) (j : Nat), (l.take j).sum ≤ l.sum
  | _, 0 => by simp
  | [], _ + 1 => by simp
  | a :: l, j + 1 => by have := sum_takeN l j; rw [List.take_succ_cons, List.sum_cons, List.sum_cons]; omega
theorem size_le {p : List (Nat × Bd)} {t : Tr} {i f : Nat} (hf : f ∈ t.part i) : sizeOf' (szs p) f ≤ t.psz (szs p) i := by
  unfold Tr.psz
  exact le_sumN (List.mem_map_of_mem hf)
def mksL (z : Szs) (l : List Nat) : List Mrk := l.flatMap fun f => (List.range (sizeOf' z f)).map fun k => (f, k)
theorem mks_eq {t : Tr} {z : Szs} {i : Nat} : mksL z (t.part i) = t.mks z i := rfl
theorem mksL_app {z : Szs} {l : List Nat} {f : Nat} : mksL z (l ++ [f]) = mksL z l ++ (List.range (sizeOf' z f)).map fun k => (f, k) := by unfold mksL; rw [List.flatMap_append]; simp
theorem mks_len {z : Szs} {l : List Nat} : (mksL z l).length = (l.map (sizeOf' z)).sum := by
  unfold mksL
  induction l with
  | nil => rfl
  | cons f l ih => rw [List.flatMap_cons, List.length_append, ih, List.map_cons, List.sum_cons, List.length_map, List.length_range]
theorem mkW_one {b s f : Nat} : mkW b ((List.range s).map fun k => ((f, k) : Mrk)) = (List.range s).map fun k => W.tup [.int ((b + k : Nat) : Int), encM (f, k)] := by
  unfold mkW
  refine List.ext_getElem? fun a => ?_
  rw [List.getElem?_map, List.getElem?_zipIdx, List.getElem?_map, List.getElem?_map]
  cases h : (List.range s)[a]? with
  | none => rfl
  | some k =>
    have := (List.getElem?_eq_some_iff.mp h)
    obtain ⟨h1, h2⟩ := this
    rw [List.getElem_range] at h2
    subst h2
    rfl
theorem HD.Ok.psz64 {h : HD} (o : h.Ok) {i : Nat} (hi : i < h.t.parts.length) : h.t.beg (szs h.p) i + h.t.psz (szs h.p) i ≤ h.room := by
  have h1 := Tr.fin_le (z := szs h.p) hi
  have h2 := o.ok.fin (szs h.p) hi
  have := o.far
  omega
theorem keep_Hall_marks {Γ : Gam} {k : Nat} : KeepG Γ n_Hall_marks 2 c_Hall_marks (sp_Hall_marks k) := by
  rintro ws M Q Ex ⟨h, L, many, i, rfl, o, H, hi, q⟩
  refine ⟨rfl, ?_⟩
  show dSs Γ _ _ [some (.ref h.x), some (.int i), none, none, none, none] M
  have ok := o.ok
  have h64 := o.r64
  have hps := o.psz64 hi
  simp only [evs_, c_Hall_marks]
  intro R hR
  have H1 := fun ws : List W => H.new (o := .lst ws) hR
  simp only [evs_, c_Hall_marks_1, fld_ins (H1 _).hx, hf_laid, lw_parts, part_at hi]
  refine for_inv (fun j σ M' => (∃ x y z, σ = [some (.ref h.x), some (.int i), some (.ref R), x, y, z]) ∧ M' = mup M R (.lst (mkW (h.t.beg (szs h.p) i) (mksL (szs h.p) ((h.t.part i).take j))))) (fun _ _ _ _ => trivial) _ 0 ⟨⟨_, _, _, rfl⟩, rfl⟩ (fun j w σ M' K hw hI hK => ?_) (fun σ M' hI => ?_)
  · obtain ⟨⟨x, y, z, rfl⟩, rfl⟩ := hI
    rw [Nat.zero_add] at hK ⊢
    unfold wInts at hw
    rw [List.getElem?_map] at hw
    cases hj : (h.t.part i)[j]? with
    | none => rw [hj] at hw; cases hw
    | some f =>
    rw [hj] at hw
    cases hw
    have hfm : f ∈ h.t.part i := List.mem_of_getElem? hj
    have hfp := ok.part_lt hi hfm
    have hpof : h.t.pof f = i := ok.pof_eq (part_get hi) hfm
    have hcell : h.t.cell (szs h.p) f = h.t.beg (szs h.p) i + (((h.t.part i).take j).map (sizeOf' (szs h.p))).sum := by
      unfold Tr.cell
      rw [hpof, takeW (ok.nodup (part_mem hi)) hj]
    have htk : (h.t.part i).take (j + 1) = (h.t.part i).take j ++ [f] := by rw [List.take_succ, hj]; rfl
    have hsz := size_le (p := h.p) hfm
    have hsum : (((h.t.part i).take j).map (sizeOf' (szs h.p))).sum ≤ h.t.psz (szs h.p) i := by
      unfold Tr.psz
      rw [List.map_take]
      exact sum_takeN _ _
    simp only [evs_, c_Hall_marks_3, fld_ins (H1 _).hx, hf_laid, lw_first, dlook_fzN, ok.in_flat hfp, if_true, c_Hall_marks_4, dLc, wipeW, lw_sizes, size_at hfp]
    have hrl : rangeL 0 (sizeOf' (szs h.p) f : Int) = ((List.range (sizeOf' (szs h.p) f)).map fun k : Nat => (W.int k, some (W.tup [.int ((h.t.beg (szs h.p) i + (mksL (szs h.p) ((h.t.part i).take j)).length + k : Nat) : Int), encM (f, k)]))).map (·.1) := by
      rw [rangeL_natI, ← wInts_eq]; unfold wInts; rw [List.map_map]; rfl
    refine ⟨by rw [recv_mup]; rfl, by omega, by omega, by rw [rangeL_len]; exact szl (by omega), lc_of _ hrl (fun _ _ _ => trivial) (fun D hD pr hp us => ?_) ?_⟩
    · obtain ⟨k, hk, rfl⟩ := List.mem_map.mp hp
      refine ⟨_, rfl, fun R h => h, fun y hy R h => ?_⟩
      cases hy
      simp only [evs_, dX]
      rw [hcell]
      rw [mks_len] at h
      have e : ∀ a b c : Nat, ((a + b : Nat) : Int) + (c : Int) = ((a + b + c : Nat) : Int) := fun a b c => by omega
      rw [e]
      exact ⟨by decide, by decide, h⟩
    · rw [fm_some]
      have e2 : ∀ b : Nat, ((List.range (sizeOf' (szs h.p) f)).map fun k => W.tup [.int ((b + k : Nat) : Int), encM (f, k)]) = mkW b ((List.range (sizeOf' (szs h.p) f)).map fun k => (f, k)) := fun b => mkW_one.symm
      rw [e2]
      simp only [BM.w, cls_ext, ext_mup]
      refine ⟨szl (by rw [mkW_len, mkW_len, mks_len, List.length_map, List.length_range]; omega), hK _ _ ⟨⟨_, _, _, rfl⟩, ?_⟩⟩
      rw [htk, mksL_app, mkW_app]
  · obtain ⟨⟨x, y, z, rfl⟩, rfl⟩ := hI
    simp only [evs_, c_Hall_marks_2]
    rw [frz_mup, mdel_mup hR, wInts_len, List.take_length]
    exact fgQ.of q
def sp_Hall_is_in : Nat → Wp := fun k ws M Q _ => ∃ (h : HD) (L : Ls) (many i : Nat), ws = [.ref h.x, .int i] ∧ h.Ok ∧ HallAt h L many M ∧ i < h.t.parts.length ∧ 1 ≤ k ∧ Q (.bl (h.t.isB (szs h.p) L i)) M
theorem pl_cells {ws : List Nat} : PlW 64 (.lst (wInts ws)) := pl_lst (n := 63) fun w hw => by
  unfold wInts at hw
  obtain ⟨i, _, rfl⟩ := List.mem_map.mp hw
  exact pl_int
theorem keep_Hall_is_in {Γ : Gam} {k : Nat} (mn_marks : Γ.meN 9 = "marks") (m_Hall_marks : Γ.me 17 9 = some (dn sp_Hall_marks k)) : KeepG Γ n_Hall_is_in 2 c_Hall_is_in (sp_Hall_is_in k) := by
  rintro ws M Q Ex ⟨h, L, many, i, rfl, o, H, hi, hk, q⟩
  refine ⟨rfl, ?_⟩
  show dSs Γ _ _ [some (.ref h.x), some (.int i), none, none] M
  have ok := o.ok
  have h64 := o.r64
  have hps := o.psz64 hi
  cases k with
  | zero => omega
  | succ k =>
  simp only [evs_, c_Hall_is_in, dLc, wipeW, ins_ins H.hx, Prod.mk.injEq, mn_marks, m_Hall_marks, dn]
  refine ⟨hall_nm _ (by simp), h, L, many, i, rfl, o, H, hi, ?_⟩
  simp only [evs_, dX]
  have hx : marksW h.t (szs h.p) i = (((h.t.mks (szs h.p) i).zipIdx (h.t.beg (szs h.p) i)).map fun mc => (W.tup [.int (mc.2 : Nat), encM mc.1], if L mc.2 = some mc.1 then none else some (W.int (mc.2 : Nat)))).map (·.1) := by
    rw [List.map_map]; rfl
  refine ⟨szl (by unfold marksW; rw [mkW_len, mk_len]; omega), lc_of _ hx (fun _ _ _ => trivial) (fun D hD pr hp us => ?_) ?_⟩
  · obtain ⟨⟨m, c⟩, hm, rfl⟩ := List.mem_map.mp hp
    have hc := List.mem_zipIdx hm
    rw [mk_len] at hc
    have hcr : c < h.room := by omega
    refine ⟨_, rfl, fun R h2 => ?_, fun y hy R h2 => ?_⟩
    · simp only [evs_, fld_ins (H.new hD).hx, hf_lies, idx_ref (H.new hD).hl, lies_at hcr, ne_mark]
      by_cases e : L c = some m
      · simp [e] at h2 ⊢; exact h2
      · simp [e] at h2 ⊢; exact h2
    · by_cases e : L c = some m
      · simp [e] at hy
      · simp [e] at hy
        subst hy
        exact ⟨_, rfl, h2⟩
  · have hw : ∃ ns : List Nat, ((((h.t.mks (szs h.p) i).zipIdx (h.t.beg (szs h.p) i)).map fun mc => (W.tup [.int (mc.2 : Nat), encM mc.1], if L mc.2 = some mc.1 then none else some (W.int (mc.2 : Nat)))).filterMap (·.2)) = wInts ns ∧ (ns = [] ↔ h.t.isIn (szs h.p) L i) := by
      refine ⟨((h.t.mks (szs h.p) i).zipIdx (h.t.beg (szs h.p) i)).filterMap fun mc => if L mc.2 = some mc.1 then none else some mc.2, ?_, ?_⟩
      · unfold wInts
        rw [List.filterMap_map, List.map_filterMap]
        congr 1
        funext mc
        simp only [Function.comp]
        split <;> rfl
      · rw [List.filterMap_eq_nil_iff]
        constructor
        · intro hh j m hj
          have := hh (m, h.t.beg (szs h.p) i + j) (by
            rw [List.mem_iff_getElem?]
            exact ⟨j, by rw [List.getElem?_zipIdx, hj]; rfl⟩)
          by_cases e : L (h.t.beg (szs h.p) i + j) = some m
          · exact e
          · simp [e] at this
        · intro hh mc hm
          obtain ⟨j, hj⟩ := List.mem_iff_getElem?.mp hm
          rw [List.getElem?_zipIdx] at hj
          cases e : (h.t.mks (szs h.p) i)[j]? with
          | none => rw [e] at hj; cases hj
          | some m =>
            rw [e] at hj
            cases hj
            exact if_pos (hh j m e)
    obtain ⟨ns, e1, e2⟩ := hw
    rw [e1, eq_lst0 pl_cells]
    have e3 : decide (wInts ns = []) = h.t.isB (szs h.p) L i := by
      rw [Bool.eq_iff_iff, isB_iff, ← e2]
      simp [wInts]
    rw [e3]
    exact fgQ.of q
theorem ixN_nat {n c : Nat} (h : c < n) : ixN n (c : Int) = some c := by simp [ixN, h]
theorem dfz_ints {M : Mh} {R : Addr} {l : List Nat} {Q : QW} (hR : M R = none) (q : Q (.lst (wInts l)) M) : dfzW (.ref R) (mup M R (.lst (wInts l))) Q := by
  refine ⟨_, _, .lst mup_at .keep, ?_⟩
  have : mdelL (mup M R (.lst (wInts l))) [R] = M := by
    funext b
    unfold mdelL
    by_cases e : b = R
    · rw [if_pos (by simp [e]), e, hR]
    · rw [if_neg (by simp [e]), mup_off e]
  rw [this]
  exact q
def sp_Hall_look : Nat → Wp := fun k ws M Q _ => ∃ (h : HD) (L : Ls) (many f : Nat), ws = [.ref h.x, .int f] ∧ h.Ok ∧ HallAt h L many M ∧ f < h.p.length ∧ 3 ≤ k ∧
  ∀ found L' M', Looked h.t (szs h.p) (h.t.down (h.t.pof f)) L found L' → HallAt h L' (many + (found.map (h.t.psz (szs h.p))).sum) M' → Fr h.x h.l M M' → found.length ≤ 8 → Q (.lst (wInts found)) M'
theorem down_len {h : HD} (o : h.Ok) {f : Nat} : (h.t.down (h.t.pof f)).length ≤ 8 := by
  unfold Tr.down
  rw [List.length_reverse]
  have := h.t.ups_len (h.t.pof f)
  have := o.ok.len_le
  have := o.pok.l8
  omega
theorem keep_Hall_look {Γ : Gam} {k : Nat} (f_need_function : Γ.fn 19 = dn sp_need_function k) (mn_down : Γ.meN 7 = "down") (m_Laid_down : Γ.me 16 7 = some (dn sp_Laid_down k)) (mn_is_in : Γ.meN 10 = "is_in") (m_Hall_is_in : Γ.me 17 10 = some (dn sp_Hall_is_in k)) (mn_marks : Γ.meN 9 = "marks") (m_Hall_marks : Γ.me 17 9 = some (dn sp_Hall_marks k)) : KeepG Γ n_Hall_look 2 c_Hall_look (sp_Hall_look k) := by
  rintro ws M Q Ex ⟨h, L, many, f, rfl, o, H, hf, hk, q⟩
  refine ⟨rfl, ?_⟩
  show dSs Γ _ _ [some (.ref h.x), some (.int f), none, none, none, none] M
  have ok := o.ok
  have h64 := o.r64
  have h8 := o.pok.l8
  have hp := ok.pof_lt hf
  have hdl := down_len o (f := f)
  obtain ⟨k, rfl⟩ : ∃ j, k = j + 3 := ⟨k - 3, by omega⟩
  simp only [evs_, c_Hall_look, fld_ins H.hx, hf_program, f_need_function, mn_down, m_Laid_down, mn_is_in, m_Hall_is_in, mn_marks, m_Hall_marks, dn]
  refine ⟨h.p, f, rfl, hf, by omega, ?_⟩
  simp only [evs_, c_Hall_look_1]
  intro R hR
  have H1 := H.new (o := .lst []) hR
  have nR := H.at_ne hR
  simp only [evs_, c_Hall_look_2, fld_ins H1.hx, hf_laid, lw_ins, Prod.mk.injEq, f_need_function, mn_down, m_Laid_down, mn_is_in, m_Hall_is_in, mn_marks, m_Hall_marks, dn]
  refine ⟨laid_nm _ (by simp), h.p, h.t, h.os, h.e, f, rfl, h8, ok, hf, fun D hD => dfz_ints hD ?_⟩
  simp only [evs_, dX]
  refine for_inv (fun j σ M' => (∃ y z u, σ = [some (.ref h.x), some (.int f), some (.ref R), y, z, u]) ∧ ∃ found L', Looked h.t (szs h.p) ((h.t.down (h.t.pof f)).take j) L found L' ∧ HallAt h L' (many + (found.map (h.t.psz (szs h.p))).sum) M' ∧ M' R = some (.lst (wInts found)) ∧ Fr h.x h.l M M' ∧ found.length ≤ j) (fun _ _ _ _ => trivial) _ 0 ⟨⟨_, _, _, rfl⟩, [], L, Looked.zero, H1, mup_at, ?_, by simp⟩ (fun j w σ M' K hw hI hK => ?_) (fun σ M' hI => ?_)
  · intro b u hb _ _
    rw [mup_off (fun z => by rw [z, hR] at hb; cases hb)]
    exact hb
  · obtain ⟨⟨y, z, u, rfl⟩, found, L', lk, H2, hMR, fr, hfl⟩ := hI
    rw [Nat.zero_add] at lk hK hfl
    unfold wInts at hw
    rw [List.getElem?_map] at hw
    cases hj : (h.t.down (h.t.pof f))[j]? with
    | none => rw [hj] at hw; cases hw
    | some i =>
    rw [hj] at hw
    cases hw
    have hjl := (List.getElem?_eq_some_iff.mp hj).1
    have htk : (h.t.down (h.t.pof f)).take (j + 1) = (h.t.down (h.t.pof f)).take j ++ [i] := by rw [List.take_succ, hj]; rfl
    have hi : i < h.t.parts.length := ok.ups_lt _ hp i (mem_down.mp (List.mem_of_getElem? hj))
    have hdj : ∀ j2 ∈ (h.t.down (h.t.pof f)).take j, h.t.beg (szs h.p) j2 + h.t.psz (szs h.p) j2 ≤ h.t.beg (szs h.p) i := fun j2 hj2 => by
      have pw := down_pw ok (szs h.p) hp
      have hsp : h.t.down (h.t.pof f) = (h.t.down (h.t.pof f)).take (j + 1) ++ (h.t.down (h.t.pof f)).drop (j + 1) := (List.take_append_drop _ _).symm
      rw [hsp, htk, List.pairwise_append, List.pairwise_append] at pw
      exact pw.1.2.2 j2 hj2 i (by simp)
    have hps := o.psz64 hi
    simp only [evs_, c_Hall_look_4, ins_ins H2.hx, Prod.mk.injEq, f_need_function, mn_down, m_Laid_down, mn_is_in, m_Hall_is_in, mn_marks, m_Hall_marks, dn]
    refine ⟨hall_nm _ (by simp), h, L', _, i, rfl, o, H2, hi, by omega, ?_⟩
    by_cases hin : h.t.isIn (szs h.p) L' i
    · rw [isB_iff.mpr hin]
      simp only [evs_, dX]
      exact hK _ _ ⟨⟨_, _, _, rfl⟩, found, L', htk ▸ lk.keep hin hdj, H2, hMR, fr, by omega⟩
    · have e0 : h.t.isB (szs h.p) L' i = false := by
        cases e : h.t.isB (szs h.p) L' i with
        | false => rfl
        | true => exact absurd (isB_iff.mp e) hin
      rw [e0]
      simp only [evs_, c_Hall_look_5, BM.recv, BM.w, cls_app, app_ref hMR]
      refine ⟨⟨_, hMR⟩, szl (by rw [wInts_len]; omega), ?_⟩
      have H3 := H2.up (o := .lst (wInts found ++ [W.int i])) nR.1 nR.2
      have hR3 : (mup M' R (.lst (wInts found ++ [W.int i]))) R = some (.lst (wInts (found ++ [i]))) := by rw [mup_at, ← wInts_app]; rfl
      have fr3 : Fr h.x h.l M (mup M' R (.lst (wInts found ++ [W.int i]))) := fun b u hb h1 h2 => by
        rw [mup_off (fun z => by rw [z, hR] at hb; cases hb)]
        exact fr b u hb h1 h2
      generalize mup M' R (.lst (wInts found ++ [W.int i])) = M3 at H3 hR3 fr3 ⊢
      simp only [evs_, c_Hall_look_6, ins_ins H3.hx, Prod.mk.injEq, f_need_function, mn_down, m_Laid_down, mn_is_in, m_Hall_is_in, mn_marks, m_Hall_marks, dn]
      refine ⟨hall_nm _ (by simp), h, L', _, i, rfl, o, H3, hi, ?_⟩
      simp only [evs_, dX]
      refine for_inv (fun m σ M' => (∃ z u, σ = [some (.ref h.x), some (.int f), some (.ref R), some (.int i), z, u]) ∧ HallAt h (h.t.brg (szs h.p) L' i m) (many + (found.map (h.t.psz (szs h.p))).sum + m) M' ∧ M' R = some (.lst (wInts (found ++ [i]))) ∧ Fr h.x h.l M M') (fun _ _ _ _ => trivial) _ 0 ⟨⟨_, _, rfl⟩, by rw [brg_zero]; exact H3, hR3, fr3⟩ (fun m w σ M' K2 hw hI hK2 => ?_) (fun σ M' hI => ?_)
      · obtain ⟨⟨z, u, rfl⟩, H4, hR4, fr4⟩ := hI
        rw [Nat.zero_add] at H4 hK2
        obtain ⟨mk, hmk, rfl⟩ := mkW_get hw
        have hml := (List.getElem?_eq_some_iff.mp hmk).1
        rw [mk_len] at hml
        refine ⟨_, rfl, ?_⟩
        simp only [evs_, c_Hall_look_7, fld_ins H4.hx, hf_lies]
        have hcr : h.t.beg (szs h.p) i + m < h.room := by omega
        have hxl := H4.ne
        refine ⟨_, H4.hl, h.t.beg (szs h.p) i + m, by rw [lies_len, ← Int.natCast_add]; exact ixN_nat hcr, ?_⟩
        rw [lies_set, ← brg_succ hmk]
        have x5 : (mup M' h.l (.lst (liesW h.room (h.t.brg (szs h.p) L' i (m + 1))))) h.x = some (.ins 17 (HFs h (many + (found.map (h.t.psz (szs h.p))).sum + m))) := by rw [mup_off hxl]; exact H4.hx
        simp only [evs_, c_Hall_look_8, fld_ins x5, hf_many]
        refine ⟨_, _, x5, (by show (4 : Nat) < 1000; decide), hK2 _ _ ⟨⟨_, _, rfl⟩, ⟨?_, ?_⟩, ?_, ?_⟩⟩
        · rw [mup_at]
          have : ∀ a b c : Nat, (a : Int) + b + c + 1 = ((a + b + (c + 1) : Nat) : Int) := fun a b c => by omega
          rw [this]
          rfl
        · rw [mup_off (Ne.symm hxl)]; exact mup_at
        · rw [mup_off nR.1, mup_off nR.2]; exact hR4
        · exact fun b u hb h1 h2 => by rw [mup_off h1, mup_off h2]; exact fr4 b u hb h1 h2
      · obtain ⟨⟨z, u, rfl⟩, H4, hR4, fr4⟩ := hI
        have hlen : (marksW h.t (szs h.p) i).length = h.t.psz (szs h.p) i := by unfold marksW; rw [mkW_len, mk_len]
        rw [Nat.zero_add, hlen] at H4
        simp only [evs_, dX]
        refine hK _ _ ⟨⟨_, _, _, rfl⟩, found ++ [i], _, htk ▸ lk.bring hin hdj, ?_, hR4, fr4, by simp; omega⟩
        · rw [List.map_append, List.sum_append]
          simp only [List.map_cons, List.map_nil, List.sum_cons, List.sum_nil, Nat.add_zero]
          rw [← Nat.add_assoc]
          exact H4
  · obtain ⟨⟨y, z, u, rfl⟩, found, L', lk, H2, hMR, fr, hfl⟩ := hI
    rw [Nat.zero_add, wInts_len] at lk hfl
    rw [List.take_length] at lk
    simp only [evs_, c_Hall_look_3]
    rw [frz_ref hMR]
    have H3 : HallAt h L' (many + (found.map (h.t.psz (szs h.p))).sum) (mdel M' R) := ⟨by unfold mdel; rw [if_neg (Ne.symm nR.1)]; exact H2.hx, by unfold mdel; rw [if_neg (Ne.symm nR.2)]; exact H2.hl⟩
    refine fgQ.of (q found L' _ lk H3 (fun b u hb h1 h2 => ?_) (by omega))
    unfold mdel
    rw [if_neg (fun z => by rw [z, hR] at hb; cases hb)]
    exact fr b u hb h1 h2
def sp_Hall_there : Nat → Wp := fun k ws M Q _ => ∃ (h : HD) (L : Ls) (many f : Nat), ws = [.ref h.x, .int f] ∧ h.Ok ∧ HallAt h L many M ∧ f < h.p.length ∧ 3 ≤ k ∧ Q (.bl (h.t.thB (szs h.p) L f)) M
theorem keep_Hall_there {Γ : Gam} {k : Nat} (f_need_function : Γ.fn 19 = dn sp_need_function k) (mn_down : Γ.meN 7 = "down") (m_Laid_down : Γ.me 16 7 = some (dn sp_Laid_down k)) (mn_is_in : Γ.meN 10 = "is_in") (m_Hall_is_in : Γ.me 17 10 = some (dn sp_Hall_is_in k)) : KeepG Γ n_Hall_there 2 c_Hall_there (sp_Hall_there k) := by
  rintro ws M Q Ex ⟨h, L, many, f, rfl, o, H, hf, hk, q⟩
  refine ⟨rfl, ?_⟩
  show dSs Γ _ _ [some (.ref h.x), some (.int f), none] M
  have ok := o.ok
  have h8 := o.pok.l8
  have hp := ok.pof_lt hf
  have hdl := down_len o (f := f)
  obtain ⟨k, rfl⟩ : ∃ j, k = j + 3 := ⟨k - 3, by omega⟩
  simp only [evs_, c_Hall_there, fld_ins H.hx, hf_program, f_need_function, mn_down, m_Laid_down, mn_is_in, m_Hall_is_in, dn]
  refine ⟨h.p, f, rfl, hf, by omega, ?_⟩
  simp only [evs_, c_Hall_there_1, dLc, wipeW, fld_ins H.hx, hf_laid, lw_ins, Prod.mk.injEq, f_need_function, mn_down, m_Laid_down, mn_is_in, m_Hall_is_in, dn]
  refine ⟨laid_nm _ (by simp), h.p, h.t, h.os, h.e, f, rfl, h8, ok, hf, fun D hD => dfz_ints hD ?_⟩
  simp only [evs_, dX]
  refine ⟨szl (by rw [wInts_len]; omega), lc_of ((h.t.down (h.t.pof f)).map fun i : Nat => (W.int i, if h.t.isB (szs h.p) L i = true then none else some (W.int i))) (by unfold wInts; rw [List.map_map]; rfl) (fun _ _ _ => trivial) (fun D hD pr hp2 us => ?_) ?_⟩
  · obtain ⟨i, hi, rfl⟩ := List.mem_map.mp hp2
    have H2 := H.new (o := .lst us) hD
    refine ⟨_, rfl, fun R h2 => ?_, fun y hy R h2 => ?_⟩
    · simp only [evs_, ins_ins H2.hx, Prod.mk.injEq, f_need_function, mn_down, m_Laid_down, mn_is_in, m_Hall_is_in, dn]
      refine ⟨hall_nm _ (by simp), h, L, _, i, rfl, o, H2, ok.ups_lt _ hp i (mem_down.mp hi), by omega, ?_⟩
      simp only [evs_, dX]
      cases e : h.t.isB (szs h.p) L i <;> simp [e] at h2 ⊢ <;> exact h2
    · cases e : h.t.isB (szs h.p) L i
      · simp [e] at hy
        subst hy
        exact ⟨_, rfl, h2⟩
      · simp [e] at hy
  · have hw : ∃ ns : List Nat, (((h.t.down (h.t.pof f)).map fun i : Nat => (W.int i, if h.t.isB (szs h.p) L i = true then none else some (W.int i))).filterMap (·.2)) = wInts ns ∧ (ns = [] ↔ ∀ i ∈ h.t.ups (h.t.pof f), h.t.isIn (szs h.p) L i) := by
      refine ⟨(h.t.down (h.t.pof f)).filterMap fun i => if h.t.isB (szs h.p) L i = true then none else some i, ?_, ?_⟩
      · unfold wInts
        rw [List.filterMap_map, List.map_filterMap]
        congr 1
        funext mc
        simp only [Function.comp]
        split <;> rfl
      · rw [List.filterMap_eq_nil_iff]
        constructor
        · intro hh i hi
          have := hh i (mem_down.mpr hi)
          rw [← isB_iff]
          cases e : h.t.isB (szs h.p) L i with
          | true => rfl
          | false => simp [e] at this
        · intro hh i hi
          exact if_pos (isB_iff.mpr (hh i (mem_down.mp hi)))
    obtain ⟨ns, e1, e2⟩ := hw
    rw [e1, eq_lst0 pl_cells]
    have e3 : decide (wInts ns = []) = h.t.thB (szs h.p) L f := by
      rw [Bool.eq_iff_iff, thB_iff, ← e2]
      simp [wInts]
    rw [e3]
    exact fgQ.of q
def sp_Hall_cells : Nat → Wp := fun _ ws M Q _ => ∃ (h : HD) (L : Ls) (many : Nat), ws = [.ref h.x] ∧ h.Ok ∧ HallAt h L many M ∧ Q (.lst (liesW h.room L)) M
theorem keep_Hall_cells {Γ : Gam} {k : Nat} : KeepG Γ n_Hall_cells 1 c_Hall_cells (sp_Hall_cells k) := by
  rintro ws M Q Ex ⟨h, L, many, rfl, o, H, q⟩
  refine ⟨rfl, ?_⟩
  show dSs Γ _ _ [some (.ref h.x)] M
  simp only [evs_, c_Hall_cells, fld_ins H.hx, hf_lies]
  exact ⟨_, sv_ref H.hl ▸ rfl, fgQ.of q⟩
def sp_Hall_brought : Nat → Wp := fun _ ws M Q _ => ∃ (h : HD) (L : Ls) (many : Nat), ws = [.ref h.x] ∧ HallAt h L many M ∧ Q (.int many) M
theorem keep_Hall_brought {Γ : Gam} {k : Nat} : KeepG Γ n_Hall_brought 1 c_Hall_brought (sp_Hall_brought k) := by
  rintro ws M Q Ex ⟨h, L, many, rfl, H, q⟩
  refine ⟨rfl, ?_⟩
  show dSs Γ _ _ [some (.ref h.x)] M
  simp only [evs_, c_Hall_brought, fld_ins H.hx, hf_many]
  exact fgQ.of q
def sp_Hall_ini : Nat → Wp := fun k ws M Q _ => ∃ (x : Addr) (p : List (Nat × Bd)) (t : Tr) (room : Nat), ws = [.ref x, encP p, encT t, .int room] ∧ M x = some (.ins 17 []) ∧ PrOk p ∧ t.Ok p.length ∧ t.want (szs p) ≤ room ∧ 1 ≤ room ∧ room ≤ 64 ∧ 12 ≤ k ∧
  ∀ os e l M', M l = none → HallAt ⟨p, t, os, e, room, x, l⟩ (fun _ => none) 0 M' → Fx1 x M M' → Q .non M'
theorem lies_none {room : Nat} : (List.replicate ((room : Int)).toNat [W.non]).flatten = liesW room fun _ => none := by
  have : ((room : Int)).toNat = room := by omega
  rw [this]
  unfold liesW
  induction room with
  | zero => rfl
  | succ n ih => rw [List.replicate_succ, List.flatten_cons, ih (by omega), List.range_succ_eq_map, List.map_cons, List.map_map]; rfl
theorem keep_Hall_ini {Γ : Gam} {k : Nat} (f_need_tree : Γ.fn 18 = dn sp_need_tree k) (f_need_room : Γ.fn 23 = dn sp_need_room k) (mn_wanted : Γ.meN 8 = "wanted") (m_Laid_wanted : Γ.me 16 8 = some (dn sp_Laid_wanted k)) (i_Laid : Γ.ini 16 = dn2 sp_Laid_ini k) : KeepG Γ n_Hall_ini 4 c_Hall_ini (sp_Hall_ini k) := by
  rintro ws M Q Ex ⟨x, p, t, room, rfl, hx, pok, ok, hw, h1, h64, hk, q⟩
  refine ⟨rfl, ?_⟩
  show dSs Γ _ _ [some (.ref x), some (encP p), some (encT t), some (.int room)] M
  obtain ⟨k, rfl⟩ : ∃ j, k = j + 12 := ⟨k - 12, by omega⟩
  simp only [evs_, c_Hall_ini, f_need_tree, f_need_room, mn_wanted, m_Laid_wanted, i_Laid, dn]
  refine ⟨p, t, rfl, pok, ok, by omega, ?_⟩
  simp only [evs_, c_Hall_ini_1, f_need_tree, f_need_room, mn_wanted, m_Laid_wanted, i_Laid, dn]
  refine ⟨room, rfl, by omega, fun _ => ?_, fun h => absurd ⟨by omega, by omega⟩ h⟩
  simp only [evs_, c_Hall_ini_2]
  refine ⟨_, _, hx, by decide, ?_⟩
  simp only [evs_, c_Hall_ini_3, f_need_tree, f_need_room, mn_wanted, m_Laid_wanted, i_Laid, dn, dn2]
  have f2 : Fx1 x M (mup M x (.ins 17 (putW "program" (encP p) []))) := fun b o hb hn => by rw [mup_off hn]; exact hb
  have x2 : mup M x (.ins 17 (putW "program" (encP p) [])) x = some _ := mup_at
  generalize mup M x (.ins 17 (putW "program" (encP p) [])) = M2 at f2 x2 ⊢
  refine use_laid (k := k + 10) pok ok (by omega) fun os e M3 hos he hs => ?_
  have f3 : Fx1 x M M3 := fun b o hb hn => hs _ _ (f2 b o hb hn)
  refine ⟨_, _, hs _ _ x2, (by show (1 : Nat) < 1000; decide), ?_⟩
  have f4 : Fx1 x M (mup M3 x (.ins 17 (putW "laid" (laidW p t os e) (putW "program" (encP p) [])))) := fun b o hb hn => by rw [mup_off hn]; exact f3 b o hb hn
  have x4 : (mup M3 x (.ins 17 (putW "laid" (laidW p t os e) (putW "program" (encP p) [])))) x = some (.ins 17 [("program", encP p), ("laid", laidW p t os e)]) := mup_at
  have nex : e ≠ x := fun z => by
    have := hs _ _ x2
    rw [← z, he] at this
    cases this
  have e4 : (mup M3 x (.ins 17 (putW "laid" (laidW p t os e) (putW "program" (encP p) [])))) e = some (.dk (dN_ (t.fin (szs p)) os)) := by rw [mup_off nex]; exact he
  generalize mup M3 x (.ins 17 (putW "laid" (laidW p t os e) (putW "program" (encP p) []))) = M4 at f4 x4 e4 ⊢
  have la : lookF [("program", encP p), ("laid", laidW p t os e)] "laid" = some (laidW p t os e) := rfl
  simp only [evs_, c_Hall_ini_4, fld_ins x4, la, lw_ins, Prod.mk.injEq, f_need_tree, f_need_room, mn_wanted, m_Laid_wanted, i_Laid, dn]
  refine ⟨laid_nm _ (by simp), p, t, os, e, rfl, pok.l8, pok.l1, ok, hos, e4, ?_⟩
  have hnl : ¬ ((room : Int) < (t.want (szs p) : Nat)) := by omega
  simp only [evs_, hnl, c_Hall_ini_5]
  refine ⟨by decide, by omega, by omega, szl (by omega), fun l hl => ?_⟩
  have nlx : l ≠ x := fun z => by rw [z, x4] at hl; cases hl
  have hl0 := f4.fresh hl nlx
  rw [lies_none]
  refine ⟨_, _, by rw [mup_off (Ne.symm nlx)]; exact x4, (by show (2 : Nat) < 1000; decide), ?_⟩
  simp only [evs_, c_Hall_ini_6]
  refine ⟨_, _, mup_at, (by show (3 : Nat) < 1000; decide), ?_⟩
  rw [mup_mup]
  refine fgQ.of (q os e l _ hl0 ⟨mup_at, by rw [mup_off nlx]; exact mup_at⟩ (fx1_self (fx1_put f4 hl0)))
theorem atI_last {a : List W} {x : W} : atI (a ++ [x]) (-1) = some x := by
  unfold atI ixN
  have h1 : (-1 + ((a.length : Int) + 1)).toNat = a.length := by omega
  have h2 : (1 : Int) ≤ (a.length : Int) + 1 := by omega
  simp [h1, h2]
theorem inF_ints {i : Nat} {l : List Nat} : inF (.int i) (wInts l) = decide (i ∈ l) := by
  unfold inF wInts
  rw [Bool.eq_iff_iff]
  simp [eqF]
  constructor
  · rintro ⟨x, h, e⟩
    have : x = i := by omega
    exact this ▸ h
  · exact fun h => ⟨i, h, rfl⟩
theorem flat_ints {l : List Nat} : (wInts l).all flatW = true := by
  unfold wInts
  simp [flatW]
theorem in_ints {i : Nat} {l : List Nat} {M : Mh} {Q : QW} (q : Q (.bl (decide (i ∈ l))) M) : inW false (.int i) (.lst (wInts l)) M Q := .inl ⟨_, rfl, rfl, flat_ints, by rw [inF_ints]; exact q⟩
theorem nin_ints {i : Nat} {l : List Nat} {M : Mh} {Q : QW} (q : Q (.bl (!decide (i ∈ l))) M) : inW true (.int i) (.lst (wInts l)) M Q := .inl ⟨_, rfl, rfl, flat_ints, by rw [inF_ints]; exact q⟩
theorem want64 {p : List (Nat × Bd)} {t : Tr} (pok : PrOk p) (ok : t.Ok p.length) : 1 ≤ t.want (szs p) ∧ t.want (szs p) ≤ 64 := by
  have hsz : ∀ f, f < p.length → 1 ≤ sizeOf' (szs p) f ∧ sizeOf' (szs p) f ≤ 8 := fun f hf => by
    rw [size_of_at hf]
    have := pok.ok _ (List.getElem_mem hf)
    exact ⟨this.s1, this.s8⟩
  have hps : ∀ i, i < t.parts.length → 1 ≤ t.psz (szs p) i := fun i hi => by
    have hne := ok.ne _ (part_mem hi)
    obtain ⟨f, hf⟩ := List.exists_mem_of_ne_nil _ hne
    have := size_le (p := p) hf
    have := (hsz f (ok.part_lt hi hf)).1
    omega
  have h0 := ok.pos pok.l1
  constructor
  · have h1 := Tr.fin_le (z := szs p) h0
    have h2 := ok.fin (szs p) h0
    have := hps 0 h0
    omega
  · have hm : t.want (szs p) ∈ (List.range t.parts.length).map (t.fin (szs p)) := foldr_max_mem (fun z => by have h := congrArg List.length z; rw [List.length_map, List.length_range, List.length_nil] at h; omega)
    obtain ⟨i, hi, e⟩ := List.mem_map.mp hm
    have hi := List.mem_range.mp hi
    rw [← e]
    have nd : (t.ups i).Nodup := by
      refine (List.Pairwise.and_mem.mp (ups_pw ok (szs p) i hi)).imp fun {a b} h z => ?_
      subst z
      have h1 := ok.fin (szs p) (ok.ups_lt i hi a h.1)
      have h2 := hps a (ok.ups_lt i hi a h.1)
      have := h.2.2
      omega
    have hfl : ((t.ups i).map t.part).flatten.Nodup := by
      refine flat_nodup (fun q hq => ?_) fun a b q q' f ha hb fa fb => ?_
      · obtain ⟨j, hj, rfl⟩ := List.mem_map.mp hq
        exact ok.nodup (part_mem (ok.ups_lt i hi j hj))
      · rw [List.getElem?_map] at ha hb
        cases ea : (t.ups i)[a]? with
        | none => rw [ea] at ha; cases ha
        | some u =>
        cases eb : (t.ups i)[b]? with
        | none => rw [eb] at hb; cases hb
        | some v =>
        rw [ea] at ha
        rw [eb] at hb
        cases ha
        cases hb
        have h1 := ok.pof_eq (part_get (ok.ups_lt i hi u (List.mem_of_getElem? ea))) fa
        have h2 := ok.pof_eq (part_get (ok.ups_lt i hi v (List.mem_of_getElem? eb))) fb
        have huv : u = v := h1.symm.trans h2
        subst huv
        exact (ord_idx nd ea).symm.trans (ord_idx nd eb)
    have hlt : ∀ f ∈ ((t.ups i).map t.part).flatten, f < p.length := fun f hf => by
      obtain ⟨q, hq, hf⟩ := List.mem_flatten.mp hf
      obtain ⟨j, hj, rfl⟩ := List.mem_map.mp hq
      exact ok.part_lt (ok.ups_lt i hi j hj) hf
    have hlen := nodup_len p.length hfl hlt
    have hsum : t.fin (szs p) i = (((t.ups i).map t.part).flatten.map (sizeOf' (szs p))).sum := by
      unfold Tr.fin Tr.psz
      generalize t.ups i = l
      induction l with
      | nil => rfl
      | cons a l ih => rw [List.map_cons, List.sum_cons, ih, List.map_cons, List.flatten_cons, List.map_append, List.sum_append]
    rw [hsum]
    have h1 := sum_le (c := 8) (l := ((t.ups i).map t.part).flatten.map (sizeOf' (szs p))) fun x hx => by
      obtain ⟨f, hf, rfl⟩ := List.mem_map.mp hx
      exact (hsz f (hlt f hf)).2
    rw [List.length_map] at h1
    have := pok.l8
    omega
theorem ne_wints {l : List Nat} {M : Mh} {Q : QW} : neV_ (.lst (wInts l)) (.lst []) M Q = Q (.bl (!decide (l = []))) M := by
  rw [ne_lst0 pl_cells]
  have : decide (wInts l = []) = decide (l = []) := by rw [Bool.eq_iff_iff]; simp [wInts]
  rw [this]
theorem cut_from {l : List W} {k : Nat} (h : k ≤ l.length) : cutW l (some (k : Int)) none = l.drop k := by
  unfold cutW HT.sIx
  have h1 : ¬ ((k : Int) < 0) := by omega
  have h2 : min k l.length = k := by omega
  simp only [h1, if_false, Int.toNat_natCast, h2]
  rw [List.take_of_length_le (by simp)]
def badX (n : Nat) (x : Int) : Bool := !(decide (0 ≤ x) && decide (x ≤ (n : Int) - 1))
theorem bad_nil {n : Nat} {tr : List Int} : tr.filter (badX n) = [] ↔ ∀ x ∈ tr, 0 ≤ x ∧ x < n := by
  rw [List.filter_eq_nil_iff]
  constructor
  · intro h x hx
    have := h x hx
    unfold badX at this
    simp at this
    omega
  · intro h x hx
    have := h x hx
    unfold badX
    simp
    omega
theorem pl_intsZ {l : List Int} : PlW 64 (.lst (l.map W.int)) := pl_lst (n := 63) fun w hw => by
  obtain ⟨i, _, rfl⟩ := List.mem_map.mp hw
  exact pl_int
theorem fm_bad {n : Nat} : ∀ {l : List Int}, ((l.map fun x => (W.int x, if badX n x = true then some (W.int x) else none)).filterMap (·.2)) = (l.filter (badX n)).map W.int
  | [] => rfl
  | x :: l => by
    rw [List.map_cons, List.filterMap_cons, List.filter_cons]
    cases h : badX n x with
    | true => simp only [if_true]; rw [List.map_cons, fm_bad]
    | false => simp only [Bool.false_eq_true, if_false]; exact fm_bad
theorem dats_Z : ∀ a : List Int, dats (a.map W.int) = some (a.map PyData.int)
  | [] => rfl
  | x :: a => by
    show (match dat (W.int x), dats (a.map W.int) with
      | some d, some ds => some (d :: ds)
      | _, _ => none) = _
    rw [dats_Z a]
    rfl
theorem eqvAll_ints : ∀ {a b : List Int}, PyData.eqvAll (a.map PyData.int) (b.map PyData.int) = decide (a = b)
  | [], [] => rfl
  | [], _ :: _ => rfl
  | _ :: _, [] => rfl
  | x :: a, y :: b => by
    show (((x : Int) == y) && PyData.eqvAll (a.map PyData.int) (b.map PyData.int)) = _
    rw [eqvAll_ints, Bool.eq_iff_iff]
    simp
theorem eq_ints {a b : List Int} {M : Mh} {Q : QW} : eqV_ (.lst (a.map W.int)) (.lst (b.map W.int)) M Q = Q (.bl (decide (a = b))) M := by
  have e : eqB (.lst (a.map W.int)) (.lst (b.map W.int)) = decide (a = b) := by
    unfold eqB
    simp only [dat, dats_Z, Option.map_some]
    rw [← eqvAll_ints]
    rfl
  rw [eq_lst pl_wints pl_wints, e]
end WL
namespace WL
open PySem L2
local macro_rules | `(tactic| simp only [evs_, $xs,*]) => `(tactic| simp only [dX, dXs, dXo, dXi, dSc, d2, d1, dN, dVar, dC, dTup, dLst, dTru, dB, dChain, dIte, dNotV, dNotT, dJoinV, dJoinT, dNil, dCons, dCall, dBM, dIsi, dIsi2, dAttr, dMeth, dNew, dDget, dDin, dDnew, dKidx, dKin, dKget, dDisp, dFrz, dRev, dLrg, dSset, dSlice, dNoPart, dPart, dDfz, dRaise, dTry, dCatch, dKind, isx_eq, xfl_eq, dIsc, Gam.low, dAsg, dExpr, dRet, dIf, dFld, dSet, dDput, dNever, dFor, dNext, binP, cmpP, iSeqD, iRg1, iRg2, iZip, iEnumD, Tg.asg, setAll, List.set, List.map_cons, List.map_nil, subW, modW, fdivW, powW, ltW, leW, gtW, geW, newL, finD, frzO, tupW, listW, oneW, twoW, BI.w, ints_eq, add_int, add_str, add_tup, add_lst, mul_int, mul_lst, mul_tup, idx_tup, idx_lst, idx_scr, idx_str, len_tup, len_lst, len_scr, len_str, sl_tup, sl_lst, neg_int, str_int, str_str, int_int, int_bl, is_non, is_int, is_str, is_tup, is_lst, is_bl, is_bb, dss_cons, eq_int, eq_str, eq_bl, ne_int, ne_str, ne_bl, eq_nilL, ty_non, ty_bl, ty_int, ty_str, ty_tup, ty_lst, ty_scr, ty_dk, Ty.sub, tr_bl, tr_non, tr_int, tr_str, sv_lst, sv_tup, sv_scr, lv_lst, at0, at1, at2, cut1, len0, ss_nil, for_nil, for_cons, pairs_cons, pairs_nil, pairs_nil', walk_lst, walk_scr, walk_tup, walk_str, walk_ref, List.getElem?_cons_zero, List.getElem?_cons_succ, List.length_cons, List.length_nil, List.append_nil, List.cons_append, List.nil_append, Option.some.injEq, W.int.injEq, W.str.injEq, W.bl.injEq, W.tup.injEq, W.lst.injEq, W.ref.injEq, List.cons.injEq, Option.map_some, exists_and_left, exists_and_right, exists_eq_left, exists_eq_left', exists_eq, exists_eq', exists_eq_right, exists_eq_right', and_true, true_and, and_assoc, reduceIte, reduceCtorEq, decide_true, decide_false, decide_eq_true_eq, decide_eq_false_iff_not, Bool.not_eq_true', Bool.not_eq_false', Bool.true_eq_false, Bool.false_eq_true, if_true, if_false, Bool.not_true, Bool.not_false, ite_true, ite_false, Int.cast_ofNat_Int, Int.reduceAdd, Int.reduceSub, Int.reduceEq, Int.reduceLT, Int.reduceLE, Int.natCast_add, Nat.reduceEqDiff, Nat.reduceAdd, Nat.add_zero, Nat.zero_add, Nat.succ_ne_zero, not_true_eq_false, not_false_eq_true, Option.getD_some, Option.getD_none, Option.isSome_some, Option.isSome_none, $xs,*])
def c_need_trace_1 : Ss := .cons (.raise 9) .nil
def c_need_trace : Ss := .cons (.ite (.bool false (.cons (.cmp .Eq (.blt false .len (.cons (.var 1) .nil)) (.lit (.int 0))) (.cons (.cmp .NotEq (.lc false (.var 2) (.name 2) (.seq (.var 1)) (.some (.not (.call 0 (.cons (.var 2) (.cons (.lit (.int 0)) (.cons (.bin .Sub false (.blt false .len (.cons (.var 0) .nil)) (.lit (.int 1))) .nil)))))) [("one", 2)]) (.lst false .nil)) .nil))) c_need_trace_1 .nil) .nil
def n_need_trace : List Str := ["program", "trace", "one"]
def c_cost_of_3 : Ss := .cons (.expr (.meth 11 (.var 3) (.cons (.var 4) .nil))) .nil
def c_cost_of_2 : Ss := .cons (.ret (.meth 14 (.var 3) .nil)) .nil
def c_cost_of_1 : Ss := .cons (.for_ (.name 4) (.seq (.var 2)) c_cost_of_3) c_cost_of_2
def c_cost_of : Ss := .cons (.asg (.name 3) (.new true 17 (.cons (.var 0) (.cons (.var 1) (.cons (.meth 8 (.dfz (.new true 16 (.cons (.var 0) (.cons (.var 1) .nil)))) .nil) .nil))))) c_cost_of_1
def n_cost_of : List Str := ["program", "tree", "trace", "hall", "function"]
def c_cost_2 : Ss := .cons (.ret (.call 25 (.cons (.var 0) (.cons (.var 1) (.cons (.var 2) .nil))))) .nil
def c_cost_1 : Ss := .cons (.expr (.call 24 (.cons (.var 0) (.cons (.var 2) .nil)))) c_cost_2
def c_cost : Ss := .cons (.expr (.call 18 (.cons (.var 0) (.cons (.var 1) .nil)))) c_cost_1
def n_cost : List Str := ["program", "tree", "trace"]
def c_all_parts_8 : Ss := .cons (.expr (.bm true .append (.var 3) (.cons (.bin .Add false (.bin .Add false (.slice false (.var 4) .none (.some (.var 5))) (.tup (.cons (.bin .Add false (.idx (.var 4) (.var 5)) (.tup (.cons (.var 2) .nil))) .nil))) (.slice false (.var 4) (.some (.bin .Add false (.var 5) (.lit (.int 1)))) .none)) .nil))) .nil
def c_all_parts_7 : Ss := .cons (.for_ (.name 5) (.rg1 (.blt false .len (.cons (.var 4) .nil))) c_all_parts_8) .nil
def c_all_parts_6 : Ss := .cons (.expr (.bm true .append (.var 3) (.cons (.bin .Add false (.var 4) (.tup (.cons (.tup (.cons (.var 2) .nil)) .nil))) .nil))) c_all_parts_7
def c_all_parts_5 : Ss := .cons (.asg (.name 1) (.var 3)) .nil
def c_all_parts_4 : Ss := .cons (.for_ (.name 4) (.seq (.var 1)) c_all_parts_6) c_all_parts_5
def c_all_parts_3 : Ss := .cons (.asg (.name 3) (.lst true .nil)) c_all_parts_4
def c_all_parts_2 : Ss := .cons (.ret (.var 1)) .nil
def c_all_parts_1 : Ss := .cons (.for_ (.name 2) (.rg1 (.var 0)) c_all_parts_3) c_all_parts_2
def c_all_parts : Ss := .cons (.asg (.name 1) (.lst false (.cons (.tup .nil) .nil))) c_all_parts_1
def n_all_parts : List Str := ["many", "found", "function", "longer", "parts", "k"]
def c_all_stands_6 : Ss := .cons (.expr (.bm true .extend (.var 3) (.cons (.lc false (.bin .Add false (.var 4) (.tup (.cons (.var 5) .nil))) (.name 5) (.rg2 (.neg (.lit (.int 1))) (.var 0)) .none [("under", 5)]) .nil))) .nil
def c_all_stands_5 : Ss := .cons (.asg (.name 1) (.var 3)) .nil
def c_all_stands_4 : Ss := .cons (.for_ (.name 4) (.seq (.var 1)) c_all_stands_6) c_all_stands_5
def c_all_stands_3 : Ss := .cons (.asg (.name 3) (.lst true .nil)) c_all_stands_4
def c_all_stands_2 : Ss := .cons (.ret (.lc false (.var 4) (.name 4) (.seq (.var 1)) (.some (.call 16 (.cons (.var 4) .nil))) [("stands", 4)])) .nil
def c_all_stands_1 : Ss := .cons (.for_ (.name 2) (.rg1 (.var 0)) c_all_stands_3) c_all_stands_2
def c_all_stands : Ss := .cons (.asg (.name 1) (.lst false (.cons (.tup .nil) .nil))) c_all_stands_1
def n_all_stands : List Str := ["many", "found", "part", "longer", "stands", "under"]
def c_cheapest_7 : Ss := .cons (.raise 10) .nil
def c_cheapest_11 : Ss := .cons (.expr (.bm true .append (.var 3) (.cons (.tup (.cons (.call 25 (.cons (.var 0) (.cons (.var 6) (.cons (.var 2) .nil)))) (.cons (.var 6) .nil))) .nil))) .nil
def c_cheapest_10 : Ss := .cons (.ite (.cmp .LtE (.meth 8 (.dfz (.new true 16 (.cons (.var 0) (.cons (.var 6) .nil)))) .nil) (.var 1)) c_cheapest_11 .nil) .nil
def c_cheapest_9 : Ss := .cons (.asg (.name 6) (.tup (.cons (.var 4) (.cons (.var 5) .nil)))) c_cheapest_10
def c_cheapest_8 : Ss := .cons (.for_ (.name 5) (.seq (.call 28 (.cons (.blt false .len (.cons (.var 4) .nil)) .nil))) c_cheapest_9) .nil
def c_cheapest_6 : Ss := .cons (.ret (.ite (.cmp .NotEq (.var 3) (.lst false .nil)) (.blt false .minL (.cons (.var 3) .nil)) (.lit .non))) .nil
def c_cheapest_5 : Ss := .cons (.for_ (.name 4) (.seq (.call 27 (.cons (.blt false .len (.cons (.var 0) .nil)) .nil))) c_cheapest_8) c_cheapest_6
def c_cheapest_4 : Ss := .cons (.asg (.name 3) (.lst true .nil)) c_cheapest_5
def c_cheapest_3 : Ss := .cons (.expr (.call 24 (.cons (.var 0) (.cons (.var 2) .nil)))) c_cheapest_4
def c_cheapest_2 : Ss := .cons (.expr (.call 23 (.cons (.var 1) .nil))) c_cheapest_3
def c_cheapest_1 : Ss := .cons (.ite (.cmp .Gt (.blt false .len (.cons (.var 0) .nil)) (.glob 3)) c_cheapest_7 .nil) c_cheapest_2
def c_cheapest : Ss := .cons (.expr (.call 3 (.cons (.var 0) .nil))) c_cheapest_1
def n_cheapest : List Str := ["program", "room", "trace", "found", "parts", "stands", "tree"]
noncomputable def Tr.lookF (t : Tr) (z : Szs) (f : Nat) (L : Ls) : List Nat := (t.down (t.pof f)).filter fun i => !t.isB z L i
noncomputable def Tr.lookL (t : Tr) (z : Szs) (f : Nat) (L : Ls) : Ls := (t.lookF z f L).foldl (fun L i => t.brg z L i (t.psz z i)) L
noncomputable def Tr.goes (t : Tr) (z : Szs) (s : Nat × Ls) (tr : List Nat) : Nat × Ls := tr.foldl (fun s f => (s.1 + ((t.lookF z f s.2).map (t.psz z)).sum, t.lookL z f s.2)) s
noncomputable def Tr.cost (t : Tr) (z : Szs) (tr : List Nat) : Nat := (t.goes z (0, fun _ => none) tr).1
theorem Looked.is {t : Tr} {z : Szs} {f : Nat} {L L' : Ls} {found : List Nat} (h : Looked t z (t.down (t.pof f)) L found L') : found = t.lookF z f L ∧ L' = t.lookL z f L := by
  have e : found = t.lookF z f L := h.fil
  exact ⟨e, by rw [h.to, e]; rfl⟩
theorem goes_snoc {t : Tr} {z : Szs} {s : Nat × Ls} {tr : List Nat} {f : Nat} : t.goes z s (tr ++ [f]) = ((t.goes z s tr).1 + ((t.lookF z f (t.goes z s tr).2).map (t.psz z)).sum, t.lookL z f (t.goes z s tr).2) := by
  unfold Tr.goes
  rw [List.foldl_append]
  rfl
def trOk (n : Nat) (tr : List Int) : Prop := tr ≠ [] ∧ ∀ x ∈ tr, 0 ≤ x ∧ x < n
def sp_need_trace : Nat → Wp := fun k ws M Q Ex => ∃ (p : List (Nat × Bd)) (tr : List Int), ws = [encP p, .lst (tr.map W.int)] ∧ tr.length ≤ 100000 ∧ 1 ≤ k ∧ (trOk p.length tr → Q .non M) ∧ (¬ trOk p.length tr → Ex ⟨9, []⟩ M)
theorem keep_need_trace {Γ : Gam} {k : Nat} (f_is_number : Γ.fn 0 = dn sp_is_number k) : KeepC Γ n_need_trace 2 c_need_trace (sp_need_trace k) := by
  rintro ws M Q Ex ⟨p, tr, rfl, hl, hk, q, x⟩
  refine ⟨rfl, ?_⟩
  show dSs Γ _ _ [some (encP p), some (.lst (tr.map W.int)), none] M
  cases k with
  | zero => omega
  | succ k =>
  simp only [evs_, c_need_trace, dLc, wipeW, encP, List.length_map, f_is_number, dn]
  by_cases h0 : tr = []
  · subst h0
    simp only [evs_, List.length_nil, Int.natCast_zero, c_need_trace_1]
    exact x fun h => h.1 rfl
  · have hn : ¬ ((tr.length : Int) = 0) := by
      have : tr.length ≠ 0 := fun z => h0 (List.length_eq_zero_iff.mp z)
      omega
    simp only [evs_, hn]
    refine ⟨szl (by omega), lc_of (tr.map fun x => (W.int x, if badX p.length x = true then some (W.int x) else none)) (by rw [List.map_map]; rfl) (fun _ _ _ => trivial) (fun D hD pr hp us => ?_) ?_⟩
    · obtain ⟨y, hy, rfl⟩ := List.mem_map.mp hp
      refine ⟨_, rfl, fun R h => ?_, fun w hw R h => ?_⟩
      · simp only [evs_, f_is_number, dn]
        refine ⟨y, 0, ((p.map encF).length : Int) - 1, rfl, ?_⟩
        rw [List.length_map]
        unfold badX at h
        cases e : (decide (0 ≤ y) && decide (y ≤ (p.length : Int) - 1)) with
        | true => rw [e] at h; simp only [evs_, dX]; exact h
        | false => rw [e] at h; simp only [evs_, dX]; exact h
      · simp only at hw
        split at hw
        · cases hw; exact ⟨_, rfl, h⟩
        · cases hw
    · rw [fm_bad, ne_lst0 pl_intsZ]
      have e : decide ((tr.filter (badX p.length)).map W.int = []) = decide (∀ x ∈ tr, 0 ≤ x ∧ x < p.length) := by
        rw [Bool.eq_iff_iff]
        simp only [decide_eq_true_eq, List.map_eq_nil_iff]
        exact bad_nil
      rw [e]
      by_cases hg : ∀ x ∈ tr, 0 ≤ x ∧ x < (p.length : Int)
      · have : decide (∀ x ∈ tr, 0 ≤ x ∧ x < (p.length : Int)) = true := decide_eq_true hg
        simp only [evs_, this]
        exact q ⟨h0, hg⟩
      · have : decide (∀ x ∈ tr, 0 ≤ x ∧ x < (p.length : Int)) = false := decide_eq_false hg
        simp only [evs_, this, c_need_trace_1]
        exact x fun h => hg h.2
def sp_cost_of : Nat → Wp := fun k ws M Q _ => ∃ (p : List (Nat × Bd)) (t : Tr) (tr : List Nat), ws = [encP p, encT t, .lst (wInts tr)] ∧ PrOk p ∧ t.Ok p.length ∧ (∀ f ∈ tr, f < p.length) ∧ 16 ≤ k ∧ Q (.int (t.cost (szs p) tr : Nat)) M
theorem keep_cost_of {Γ : Gam} {k : Nat} (mn_wanted : Γ.meN 8 = "wanted") (m_Laid_wanted : Γ.me 16 8 = some (dn sp_Laid_wanted k)) (mn_look : Γ.meN 11 = "look") (m_Hall_look : Γ.me 17 11 = some (dn sp_Hall_look k)) (mn_brought : Γ.meN 14 = "brought") (m_Hall_brought : Γ.me 17 14 = some (dn sp_Hall_brought k)) (i_Hall : Γ.ini 17 = dn2 sp_Hall_ini k) (i_Laid : Γ.ini 16 = dn2 sp_Laid_ini k) : KeepG Γ n_cost_of 3 c_cost_of (sp_cost_of k) := by
  rintro ws M Q Ex ⟨p, t, tr, rfl, pok, ok, ht, hk, q⟩
  refine ⟨rfl, ?_⟩
  show dSs Γ _ _ [some (encP p), some (encT t), some (.lst (wInts tr)), none, none] M
  obtain ⟨k, rfl⟩ : ∃ j, k = j + 16 := ⟨k - 16, by omega⟩
  simp only [evs_, c_cost_of, mn_wanted, m_Laid_wanted, mn_look, m_Hall_look, mn_brought, m_Hall_brought, i_Hall, i_Laid, dn, dn2]
  intro x hx
  refine use_laid (k := k + 14) pok ok (by omega) (fun os e M3 hos he hs => ?_) x hx
  have ⟨w1, w64⟩ := want64 pok ok
  refine ⟨_, _, lw_ins, laid_nm _ (by simp), _, m_Laid_wanted, p, t, os, e, rfl, pok.l8, pok.l1, ok, hos, he, ?_⟩
  intro y hy
  refine ⟨y, p, t, t.want (szs p), rfl, mup_at, pok, ok, Nat.le_refl _, w1, w64, by omega, fun os e l M5 hl H0 f5 => ⟨rfl, ?_⟩⟩
  have nly : l ≠ y := fun z => by rw [z, mup_at] at hl; cases hl
  have hl3 : M3 l = none := by rw [mup_off nly] at hl; exact hl
  have s5 : Sub M M5 := fun c o hc => by
    have h3 := hs _ _ hc
    have hcy : c ≠ y := fun z => by rw [z, hy] at h3; cases h3
    exact f5 _ _ (by rw [mup_off hcy]; exact h3) hcy
  have o : HD.Ok ⟨p, t, os, e, t.want (szs p), y, l⟩ := ⟨pok, ok, Nat.le_refl _, w64⟩
  show dSs Γ _ _ [some (encP p), some (encT t), some (.lst (wInts tr)), some (.ref y), none] M5
  simp only [evs_, c_cost_of_1, mn_wanted, m_Laid_wanted, mn_look, m_Hall_look, mn_brought, m_Hall_brought, i_Hall, i_Laid, dn, dn2]
  refine for_inv (fun j σ M' => (∃ x, σ = [some (encP p), some (encT t), some (.lst (wInts tr)), some (.ref y), x]) ∧ HallAt ⟨p, t, os, e, t.want (szs p), y, l⟩ (t.goes (szs p) (0, fun _ => none) (tr.take j)).2 (t.goes (szs p) (0, fun _ => none) (tr.take j)).1 M' ∧ Sub M M') (fun _ _ _ _ => trivial) _ 0 ⟨⟨_, rfl⟩, H0, s5⟩ (fun j w σ M' K hw hI hK => ?_) (fun σ M' hI => ?_)
  · obtain ⟨⟨x1, rfl⟩, H1, s1⟩ := hI
    rw [Nat.zero_add] at H1 hK
    obtain ⟨f, hf, rfl⟩ : ∃ f : Nat, tr[j]? = some f ∧ w = .int f := by
      unfold wInts at hw
      rw [List.getElem?_map] at hw
      cases e : tr[j]? with
      | none => rw [e] at hw; cases hw
      | some f => rw [e] at hw; cases hw; exact ⟨f, rfl, rfl⟩
    have hfp := ht f (List.mem_of_getElem? hf)
    refine ⟨_, rfl, ?_⟩
    simp only [evs_, c_cost_of_3, ins_ins H1.hx, Prod.mk.injEq, mn_wanted, m_Laid_wanted, mn_look, m_Hall_look, mn_brought, m_Hall_brought, i_Hall, i_Laid, dn]
    refine ⟨hall_nm _ (by simp), ⟨p, t, os, e, t.want (szs p), y, l⟩, _, _, f, rfl, o, H1, hfp, by omega, fun found L' M9 lk H4 fr10 hfl => ?_⟩
    obtain ⟨hfo, hLo⟩ := Looked.is lk
    refine hK _ _ ⟨⟨_, rfl⟩, ?_, fun c u hc => fr10 _ _ (s1 _ _ hc) ?_ ?_⟩
    · have et : tr.take (j + 1) = tr.take j ++ [f] := by rw [List.take_add_one, hf]; rfl
      rw [et, goes_snoc]
      rw [hfo, hLo] at H4
      exact H4
    · rintro rfl
      rw [hs _ _ hc] at hy
      cases hy
    · rintro rfl
      rw [hs _ _ hc] at hl3
      cases hl3
  · obtain ⟨⟨x1, rfl⟩, H1, s1⟩ := hI
    simp only [evs_, c_cost_of_2, ins_ins H1.hx, Prod.mk.injEq, mn_wanted, m_Laid_wanted, mn_look, m_Hall_look, mn_brought, m_Hall_brought, i_Hall, i_Laid, dn]
    refine ⟨hall_nm _ (by simp), ⟨p, t, os, e, t.want (szs p), y, l⟩, _, _, rfl, H1, ?_⟩
    rw [show tr.take (0 + (wInts tr).length) = tr from by rw [wInts_len, Nat.zero_add, List.take_length]] at H1 ⊢
    exact ⟨M, s1, q⟩
def sp_cost : Nat → Wp := fun k ws M Q Ex => ∃ (p : List (Nat × Bd)) (t : Tr) (tr : List Int), ws = [encP p, encT t, .lst (tr.map W.int)] ∧ PrOk p ∧ t.Ok p.length ∧ tr.length ≤ 100000 ∧ 17 ≤ k ∧ (trOk p.length tr → Q (.int (t.cost (szs p) (tr.map Int.toNat) : Nat)) M) ∧ (¬ trOk p.length tr → Ex ⟨9, []⟩ M)
theorem to_nats {n : Nat} {tr : List Int} (h : ∀ x ∈ tr, 0 ≤ x ∧ x < (n : Int)) : tr.map W.int = wInts (tr.map Int.toNat) ∧ ∀ f ∈ tr.map Int.toNat, f < n := by
  constructor
  · unfold wInts
    rw [List.map_map]
    refine List.map_congr_left fun x hx => ?_
    have := h x hx
    show W.int x = W.int (x.toNat : Nat)
    congr 1
    omega
  · intro f hf
    obtain ⟨x, hx, rfl⟩ := List.mem_map.mp hf
    have := h x hx
    omega
theorem keep_cost {Γ : Gam} {k : Nat} (f_need_tree : Γ.fn 18 = dn sp_need_tree k) (f_need_trace : Γ.fn 24 = dn sp_need_trace k) (f_cost_of : Γ.fn 25 = dn sp_cost_of k) : KeepC Γ n_cost 3 c_cost (sp_cost k) := by
  rintro ws M Q Ex ⟨p, t, tr, rfl, pok, ok, hl, hk, q, x⟩
  refine ⟨rfl, ?_⟩
  show dSs Γ _ _ [some (encP p), some (encT t), some (.lst (tr.map W.int))] M
  obtain ⟨k, rfl⟩ : ∃ j, k = j + 17 := ⟨k - 17, by omega⟩
  simp only [evs_, c_cost, f_need_tree, f_need_trace, f_cost_of, dn]
  refine ⟨p, t, rfl, pok, ok, by omega, ?_⟩
  simp only [evs_, c_cost_1, f_need_tree, f_need_trace, f_cost_of, dn]
  refine ⟨p, tr, rfl, hl, by omega, fun g => ?_, x⟩
  obtain ⟨e1, e2⟩ := to_nats g.2
  simp only [evs_, c_cost_2, f_need_tree, f_need_trace, f_cost_of, dn]
  exact ⟨p, t, tr.map Int.toNat, by rw [e1], pok, ok, e2, by omega, q g⟩
def sp_all_parts : Nat → Wp := fun _ _ _ _ _ => False
theorem keep_all_parts {Γ : Gam} {k : Nat}  : KeepC Γ n_all_parts 1 c_all_parts (sp_all_parts k) := fun _ _ _ _ h => h.elim
def sp_all_stands : Nat → Wp := fun _ _ _ _ _ => False
theorem keep_all_stands {Γ : Gam} {k : Nat} (f_is_without_rings : Γ.fn 16 = dn sp_is_without_rings k) : KeepC Γ n_all_stands 1 c_all_stands (sp_all_stands k) := fun _ _ _ _ h => h.elim
def sp_cheapest : Nat → Wp := fun k ws M _ Ex => ∃ (p : List (Nat × Bd)) (room : Int) (tr : List Int), ws = [encP p, .int room, .lst (tr.map W.int)] ∧ PrOk p ∧ tr.length ≤ 100000 ∧ 11 ≤ k ∧ (5 < p.length → Ex ⟨10, []⟩ M) ∧
  (p.length ≤ 5 → ¬ (1 ≤ room ∧ room ≤ 64) → Ex ⟨4, []⟩ M) ∧ (p.length ≤ 5 → 1 ≤ room ∧ room ≤ 64 → ¬ trOk p.length tr ∧ Ex ⟨9, []⟩ M)
theorem keep_cheapest {Γ : Gam} {k : Nat} (f_need_program : Γ.fn 3 = dn sp_need_program k) (f_need_room : Γ.fn 23 = dn sp_need_room k) (f_need_trace : Γ.fn 24 = dn sp_need_trace k) (f_all_parts : Γ.fn 27 = dn sp_all_parts k) (f_all_stands : Γ.fn 28 = dn sp_all_stands k) (f_cost_of : Γ.fn 25 = dn sp_cost_of k) (g_MOST_FEW : Γ.gl 3 = .int 5) (mn_wanted : Γ.meN 8 = "wanted") (m_Laid_wanted : Γ.me 16 8 = some (dn sp_Laid_wanted k)) (i_Laid : Γ.ini 16 = dn2 sp_Laid_ini k) : KeepC Γ n_cheapest 3 c_cheapest (sp_cheapest k) := by
  rintro ws M Q Ex ⟨p, room, tr, rfl, pok, hl, hk, x1, x2, x3⟩
  refine ⟨rfl, ?_⟩
  show dSs Γ _ _ [some (encP p), some (.int room), some (.lst (tr.map W.int)), none, none, none, none] M
  obtain ⟨k, rfl⟩ : ∃ j, k = j + 11 := ⟨k - 11, by omega⟩
  simp only [evs_, c_cheapest, f_need_program, f_need_room, f_need_trace, f_all_parts, f_all_stands, f_cost_of, g_MOST_FEW, mn_wanted, m_Laid_wanted, i_Laid, dn]
  refine ⟨p, rfl, pok, by omega, ?_⟩
  simp only [evs_, c_cheapest_1, encP, List.length_map, f_need_program, f_need_room, f_need_trace, f_all_parts, f_all_stands, f_cost_of, g_MOST_FEW, mn_wanted, m_Laid_wanted, i_Laid, dn]
  by_cases h5 : 5 < p.length
  · have : (p.length : Int) > 5 := by omega
    simp only [evs_, this, c_cheapest_7]
    exact x1 h5
  · have : ¬ ((p.length : Int) > 5) := by omega
    simp only [evs_, this, c_cheapest_2, f_need_program, f_need_room, f_need_trace, f_all_parts, f_all_stands, f_cost_of, g_MOST_FEW, mn_wanted, m_Laid_wanted, i_Laid, dn]
    refine ⟨room, rfl, by omega, fun hr => ?_, x2 (by omega)⟩
    simp only [evs_, c_cheapest_3, f_need_program, f_need_room, f_need_trace, f_all_parts, f_all_stands, f_cost_of, g_MOST_FEW, mn_wanted, m_Laid_wanted, i_Laid, dn]
    have h3 := x3 (by omega) hr
    exact ⟨p, tr, rfl, hl, by omega, fun g => absurd g h3.1, fun _ => h3.2⟩
end WL
namespace WL
open PySem L2
local macro_rules | `(tactic| simp only [evs_, $xs,*]) => `(tactic| simp only [dX, dXs, dXo, dXi, dSc, d2, d1, dN, dVar, dC, dTup, dLst, dTru, dB, dChain, dIte, dNotV, dNotT, dJoinV, dJoinT, dNil, dCons, dCall, dBM, dIsi, dIsi2, dAttr, dMeth, dNew, dDget, dDin, dDnew, dKidx, dKin, dKget, dDisp, dFrz, dRev, dLrg, dSset, dSlice, dNoPart, dPart, dDfz, dRaise, dTry, dCatch, dKind, isx_eq, xfl_eq, dIsc, Gam.low, dAsg, dExpr, dRet, dIf, dFld, dSet, dDput, dNever, dFor, dNext, binP, cmpP, iSeqD, iRg1, iRg2, iZip, iEnumD, Tg.asg, setAll, List.set, List.map_cons, List.map_nil, subW, modW, fdivW, powW, ltW, leW, gtW, geW, newL, finD, frzO, tupW, listW, oneW, twoW, BI.w, ints_eq, add_int, add_str, add_tup, add_lst, mul_int, mul_lst, mul_tup, idx_tup, idx_lst, idx_scr, idx_str, len_tup, len_lst, len_scr, len_str, sl_tup, sl_lst, neg_int, str_int, str_str, int_int, int_bl, is_non, is_int, is_str, is_tup, is_lst, is_bl, is_bb, dss_cons, eq_int, eq_str, eq_bl, ne_int, ne_str, ne_bl, eq_nilL, ty_non, ty_bl, ty_int, ty_str, ty_tup, ty_lst, ty_scr, ty_dk, Ty.sub, tr_bl, tr_non, tr_int, tr_str, sv_lst, sv_tup, sv_scr, lv_lst, at0, at1, at2, cut1, len0, ss_nil, for_nil, for_cons, pairs_cons, pairs_nil, pairs_nil', walk_lst, walk_scr, walk_tup, walk_str, walk_ref, List.getElem?_cons_zero, List.getElem?_cons_succ, List.length_cons, List.length_nil, List.append_nil, List.cons_append, List.nil_append, Option.some.injEq, W.int.injEq, W.str.injEq, W.bl.injEq, W.tup.injEq, W.lst.injEq, W.ref.injEq, List.cons.injEq, Option.map_some, exists_and_left, exists_and_right, exists_eq_left, exists_eq_left', exists_eq, exists_eq', exists_eq_right, exists_eq_right', and_true, true_and, and_assoc, reduceIte, reduceCtorEq, decide_true, decide_false, decide_eq_true_eq, decide_eq_false_iff_not, Bool.not_eq_true', Bool.not_eq_false', Bool.true_eq_false, Bool.false_eq_true, if_true, if_false, Bool.not_true, Bool.not_false, ite_true, ite_false, Int.cast_ofNat_Int, Int.reduceAdd, Int.reduceSub, Int.reduceEq, Int.reduceLT, Int.reduceLE, Int.natCast_add, Nat.reduceEqDiff, Nat.reduceAdd, Nat.add_zero, Nat.zero_add, Nat.succ_ne_zero, not_true_eq_false, not_false_eq_true, Option.getD_some, Option.getD_none, Option.isSome_some, Option.isSome_none, $xs,*])
def c_l_hall_1 : Ss := .cons (.ret (.disp true ["program", "tree", "laid", "cells", "many"] (.cons (.var 0) (.cons (.var 1) (.cons (.var 3) (.cons (.bin .Mult true (.lst false (.cons (.lit .non) .nil)) (.var 2)) (.cons (.lit (.int 0)) .nil))))))) .nil
def c_l_hall : Ss := .cons (.asg (.tup [3, 4]) (.call 67 (.cons (.var 0) (.cons (.var 1) .nil)))) c_l_hall_1
def n_l_hall : List Str := ["_law_program_here", "_law_tree_here", "_law_room", "_law_laid_here", "_law_far"]
def c_l_look_6 : Ss := .cons (.expr (.bm true .extend (.var 4) (.cons (.lc false (.tup (.cons (.bin .Add false (.idx (.idx (.dget (.var 0) (.lit (.str "laid"))) (.var 5)) (.lit (.int 0))) (.var 8)) (.cons (.tup (.cons (.var 5) (.cons (.var 8) .nil))) .nil))) (.name 8) (.rg1 (.idx (.idx (.dget (.var 0) (.lit (.str "program"))) (.var 5)) (.lit (.int 0)))) .none [("_law_k", 8)]) .nil))) .nil
def c_l_look_10 : Ss := .cons (.set (.dget (.var 0) (.lit (.str "cells"))) (.var 6) (.var 7)) .nil
def c_l_look_9 : Ss := .cons (.dput (.var 0) (.lit (.str "many")) (.bin .Add false (.dget (.var 0) (.lit (.str "many"))) (.blt false .len (.cons (.var 4) .nil)))) .nil
def c_l_look_8 : Ss := .cons (.for_ (.tup [6, 7]) (.seq (.var 4)) c_l_look_10) c_l_look_9
def c_l_look_7 : Ss := .cons (.expr (.bm true .append (.var 2) (.cons (.var 3) .nil))) c_l_look_8
def c_l_look_5 : Ss := .cons (.ite (.cmp .NotEq (.lc false (.var 6) (.tup [6, 7]) (.seq (.var 4)) (.some (.cmp .NotEq (.idx (.dget (.var 0) (.lit (.str "cells"))) (.var 6)) (.var 7))) [("_law_cell", 6), ("_law_mark", 7)]) (.lst false .nil)) c_l_look_7 .nil) .nil
def c_l_look_4 : Ss := .cons (.for_ (.name 5) (.seq (.idx (.idx (.dget (.var 0) (.lit (.str "tree"))) (.lit (.int 0))) (.var 3))) c_l_look_6) c_l_look_5
def c_l_look_3 : Ss := .cons (.asg (.name 4) (.lst true .nil)) c_l_look_4
def c_l_look_2 : Ss := .cons (.ret (.frz (.var 2))) .nil
def c_l_look_1 : Ss := .cons (.for_ (.name 3) (.seq (.idx (.idx (.dget (.var 0) (.lit (.str "laid"))) (.var 1)) (.lit (.int 1)))) c_l_look_3) c_l_look_2
def c_l_look : Ss := .cons (.asg (.name 2) (.lst true .nil)) c_l_look_1
def n_l_look : List Str := ["_law_s", "_law_function", "_law_brought", "_law_part", "_law_due", "_law_one", "_law_cell", "_law_mark", "_law_k"]
def LallF (h : HD) (many : Nat) : List (Key × W) := [(.inr "program", encP h.p), (.inr "tree", encT h.t), (.inr "laid", laidL h.p h.t), (.inr "cells", .ref h.l), (.inr "many", .int many)]
structure LallAt (h : HD) (L : Ls) (many : Nat) (M : Mh) : Prop where
  hx : M h.x = some (.dk (LallF h many))
  hl : M h.l = some (.lst (liesW h.room L))
theorem LallAt.ne {h : HD} {L : Ls} {many : Nat} {M : Mh} (H : LallAt h L many M) : h.x ≠ h.l := fun z => by
  have := H.hx
  rw [z, H.hl] at this
  cases this
theorem LallAt.at_ne {h : HD} {L : Ls} {many : Nat} {M : Mh} (H : LallAt h L many M) {c : Addr} (hc : M c = none) : c ≠ h.x ∧ c ≠ h.l := ⟨fun z => (by rw [z, H.hx] at hc; cases hc), fun z => (by rw [z, H.hl] at hc; cases hc)⟩
theorem LallAt.up {h : HD} {L : Ls} {many : Nat} {M : Mh} (H : LallAt h L many M) {c : Addr} {o : MO} (n1 : c ≠ h.x) (n2 : c ≠ h.l) : LallAt h L many (mup M c o) := ⟨by rw [mup_off (Ne.symm n1)]; exact H.hx, by rw [mup_off (Ne.symm n2)]; exact H.hl⟩
theorem LallAt.new {h : HD} {L : Ls} {many : Nat} {M : Mh} (H : LallAt h L many M) {c : Addr} {o : MO} (hc : M c = none) : LallAt h L many (mup M c o) := H.up (H.at_ne hc).1 (H.at_ne hc).2
theorem LallAt.fr {h : HD} {L : Ls} {many : Nat} {M M' : Mh} {a s : Addr} (H : LallAt h L many M) (f : Fr a s M M') (n1 : h.x ≠ a) (n2 : h.x ≠ s) (n3 : h.l ≠ a) (n4 : h.l ≠ s) : LallAt h L many M' := ⟨f _ _ H.hx n1 n2, f _ _ H.hl n3 n4⟩
theorem ld_program {h : HD} {L : Ls} {m : Nat} {M : Mh} (H : LallAt h L m M) : dlook M (.ref h.x) (.str "program") = some (some (encP h.p)) := by unfold dlook; simp only [H.hx]; rfl
theorem ld_tree {h : HD} {L : Ls} {m : Nat} {M : Mh} (H : LallAt h L m M) : dlook M (.ref h.x) (.str "tree") = some (some (encT h.t)) := by unfold dlook; simp only [H.hx]; rfl
theorem ld_laid {h : HD} {L : Ls} {m : Nat} {M : Mh} (H : LallAt h L m M) : dlook M (.ref h.x) (.str "laid") = some (some (laidL h.p h.t)) := by unfold dlook; simp only [H.hx]; rfl
theorem ld_cells {h : HD} {L : Ls} {m : Nat} {M : Mh} (H : LallAt h L m M) : dlook M (.ref h.x) (.str "cells") = some (some (.ref h.l)) := by unfold dlook; simp only [H.hx]; rfl
theorem ld_many {h : HD} {L : Ls} {m : Nat} {M : Mh} (H : LallAt h L m M) : dlook M (.ref h.x) (.str "many") = some (some (.int m)) := by unfold dlook; simp only [H.hx]; rfl
theorem laidL_at {p : List (Nat × Bd)} {t : Tr} {f : Nat} (h : f < p.length) : atI ((List.range p.length).map fun f => W.tup [.int (t.cell (szs p) f : Nat), .lst (wInts (t.down (t.pof f)))]) (f : Int) = some (.tup [.int (t.cell (szs p) f : Nat), .lst (wInts (t.down (t.pof f)))]) := atN (by rw [List.getElem?_map, List.getElem?_range h]; rfl)
def sp_l_hall : Nat → Wp := fun k ws M Q _ => ∃ (p : List (Nat × Bd)) (t : Tr) (room : Nat), ws = [encP p, encT t, .int room] ∧ PrOk p ∧ t.Ok p.length ∧ room ≤ 64 ∧ 1 ≤ k ∧
  ∀ x l M', M x = none → M l = none → LallAt ⟨p, t, [], 0, room, x, l⟩ (fun _ => none) 0 M' → Sub M M' → Q (.ref x) M'
theorem keep_l_hall {Γ : Gam} {k : Nat} (f_l_laid : Γ.fn 67 = dn sp_l_laid k) : KeepG Γ n_l_hall 3 c_l_hall (sp_l_hall k) := by
  rintro ws M Q Ex ⟨p, t, room, rfl, pok, ok, h64, hk, q⟩
  refine ⟨rfl, ?_⟩
  show dSs Γ _ _ [some (encP p), some (encT t), some (.int room), none, none] M
  cases k with
  | zero => omega
  | succ k =>
  simp only [evs_, c_l_hall, f_l_laid, dn]
  refine ⟨p, t, rfl, pok, ok, ?_⟩
  simp only [evs_, c_l_hall_1]
  intro x hx
  refine ⟨by decide, by omega, by omega, szl (by omega), fun l hl => ?_⟩
  have ne : l ≠ x := fun z => by rw [z, mup_at] at hl; cases hl
  have hl0 : M l = none := by rw [mup_off ne] at hl; exact hl
  rw [lies_none]
  refine ⟨by rw [mup_off (Ne.symm ne)]; exact mup_at, fgQ.of (q x l _ hx hl0 ⟨mup_at, by rw [mup_off ne]; exact mup_at⟩ fun c u hc => ?_)⟩
  rw [mup_off (fun z => by rw [z, hx] at hc; cases hc), mup_off (fun z => by rw [z, hl0] at hc; cases hc), mup_off (fun z => by rw [z, hx] at hc; cases hc)]
  exact hc
theorem miss_ns {h : HD} {L : Ls} {i : Nat} : ∃ ns : List Nat, ((((h.t.mks (szs h.p) i).zipIdx (h.t.beg (szs h.p) i)).map fun mc => (W.tup [.int (mc.2 : Nat), encM mc.1], if L mc.2 = some mc.1 then none else some (W.int (mc.2 : Nat)))).filterMap (·.2)) = wInts ns ∧ (ns = [] ↔ h.t.isIn (szs h.p) L i) := by
  refine ⟨((h.t.mks (szs h.p) i).zipIdx (h.t.beg (szs h.p) i)).filterMap fun mc => if L mc.2 = some mc.1 then none else some mc.2, ?_, ?_⟩
  · unfold wInts
    rw [List.filterMap_map, List.map_filterMap]
    congr 1
    funext mc
    simp only [Function.comp]
    split <;> rfl
  · rw [List.filterMap_eq_nil_iff]
    constructor
    · intro hh j m hj
      have := hh (m, h.t.beg (szs h.p) i + j) (by
        rw [List.mem_iff_getElem?]
        exact ⟨j, by rw [List.getElem?_zipIdx, hj]; rfl⟩)
      by_cases e : L (h.t.beg (szs h.p) i + j) = some m
      · exact e
      · simp [e] at this
    · intro hh mc hm
      obtain ⟨j, hj⟩ := List.mem_iff_getElem?.mp hm
      rw [List.getElem?_zipIdx] at hj
      cases e : (h.t.mks (szs h.p) i)[j]? with
      | none => rw [e] at hj; cases hj
      | some m =>
        rw [e] at hj
        cases hj
        exact if_pos (hh j m e)
def sp_l_look : Nat → Wp := fun _ ws M Q _ => ∃ (h : HD) (L : Ls) (many f : Nat), ws = [.ref h.x, .int f] ∧ h.Ok ∧ LallAt h L many M ∧ f < h.p.length ∧
  ∀ found L' M', Looked h.t (szs h.p) (h.t.down (h.t.pof f)) L found L' → LallAt h L' (many + (found.map (h.t.psz (szs h.p))).sum) M' → Fr h.x h.l M M' → found.length ≤ 8 → Q (.lst (wInts found)) M'
theorem keep_l_look {Γ : Gam} {k : Nat}  : KeepG Γ n_l_look 2 c_l_look (sp_l_look k) := by
  rintro ws M Q Ex ⟨h, L, many, f, rfl, o, H, hf, q⟩
  refine ⟨rfl, ?_⟩
  show dSs Γ _ _ [some (.ref h.x), some (.int f), none, none, none, none, none, none, none] M
  have ok := o.ok
  have h64 := o.r64
  have h8 := o.pok.l8
  have hp := ok.pof_lt hf
  have hdl := down_len o (f := f)
  simp only [evs_, c_l_look]
  intro R hR
  have H1 := H.new (o := .lst []) hR
  have nR := H.at_ne hR
  simp only [evs_, c_l_look_1, ld_laid H1, laidL, laidL_at hf]
  refine for_inv (fun j σ M' => (∃ x3 x4 x5 x6 x7 x8, σ = [some (.ref h.x), some (.int f), some (.ref R), x3, x4, x5, x6, x7, x8]) ∧ ∃ found L', Looked h.t (szs h.p) ((h.t.down (h.t.pof f)).take j) L found L' ∧ LallAt h L' (many + (found.map (h.t.psz (szs h.p))).sum) M' ∧ M' R = some (.lst (wInts found)) ∧ Fr h.x h.l M M' ∧ found.length ≤ j) (fun _ _ _ _ => trivial) _ 0 ⟨⟨_, _, _, _, _, _, rfl⟩, [], L, Looked.zero, H1, mup_at, ?_, by simp⟩ (fun j w σ M' K hw hI hK => ?_) (fun σ M' hI => ?_)
  · intro b u hb _ _
    rw [mup_off (fun z => by rw [z, hR] at hb; cases hb)]
    exact hb
  · obtain ⟨⟨x3, x4, x5, x6, x7, x8, rfl⟩, found, L', lk, H2, hMR, fr, hfl⟩ := hI
    rw [Nat.zero_add] at lk hK hfl
    unfold wInts at hw
    rw [List.getElem?_map] at hw
    cases hj : (h.t.down (h.t.pof f))[j]? with
    | none => rw [hj] at hw; cases hw
    | some i =>
    rw [hj] at hw
    cases hw
    have hjl := (List.getElem?_eq_some_iff.mp hj).1
    have htk : (h.t.down (h.t.pof f)).take (j + 1) = (h.t.down (h.t.pof f)).take j ++ [i] := by rw [List.take_succ, hj]; rfl
    have hi : i < h.t.parts.length := ok.ups_lt _ hp i (mem_down.mp (List.mem_of_getElem? hj))
    have hdj : ∀ j2 ∈ (h.t.down (h.t.pof f)).take j, h.t.beg (szs h.p) j2 + h.t.psz (szs h.p) j2 ≤ h.t.beg (szs h.p) i := fun j2 hj2 => by
      have pw := down_pw ok (szs h.p) hp
      have hsp : h.t.down (h.t.pof f) = (h.t.down (h.t.pof f)).take (j + 1) ++ (h.t.down (h.t.pof f)).drop (j + 1) := (List.take_append_drop _ _).symm
      rw [hsp, htk, List.pairwise_append, List.pairwise_append] at pw
      exact pw.1.2.2 j2 hj2 i (by simp)
    have hps := o.psz64 hi
    refine ⟨_, rfl, ?_⟩
    simp only [evs_, c_l_look_3]
    intro B hB
    have nB := H2.at_ne hB
    have nBR : B ≠ R := fun z => by rw [z, hMR] at hB; cases hB
    have H3 := fun ws : List W => H2.new (o := .lst ws) hB
    simp only [evs_, c_l_look_4, ld_tree (H3 _), encT, part_at hi]
    refine for_inv (fun m σ M2 => (∃ x5 x6 x7 x8, σ = [some (.ref h.x), some (.int f), some (.ref R), some (.int i), some (.ref B), x5, x6, x7, x8]) ∧ M2 = mup M' B (.lst (mkW (h.t.beg (szs h.p) i) (mksL (szs h.p) ((h.t.part i).take m))))) (fun _ _ _ _ => trivial) _ 0 ⟨⟨_, _, _, _, rfl⟩, rfl⟩ (fun m w σ M2 K2 hw hI hK2 => ?_) (fun σ M2 hI => ?_)
    · obtain ⟨⟨x5, x6, x7, x8, rfl⟩, rfl⟩ := hI
      rw [Nat.zero_add] at hK2 ⊢
      unfold wInts at hw
      rw [List.getElem?_map] at hw
      cases hg : (h.t.part i)[m]? with
      | none => rw [hg] at hw; cases hw
      | some g =>
      rw [hg] at hw
      cases hw
      have hgm : g ∈ h.t.part i := List.mem_of_getElem? hg
      have hgp := ok.part_lt hi hgm
      have hpof : h.t.pof g = i := ok.pof_eq (part_get hi) hgm
      have hcell : h.t.cell (szs h.p) g = h.t.beg (szs h.p) i + (((h.t.part i).take m).map (sizeOf' (szs h.p))).sum := by
        unfold Tr.cell
        rw [hpof, takeW (ok.nodup (part_mem hi)) hg]
      have htk2 : (h.t.part i).take (m + 1) = (h.t.part i).take m ++ [g] := by rw [List.take_succ, hg]; rfl
      have hsz := size_le (p := h.p) hgm
      have hsum : (((h.t.part i).take m).map (sizeOf' (szs h.p))).sum ≤ h.t.psz (szs h.p) i := by
        unfold Tr.psz
        rw [List.map_take]
        exact sum_takeN _ _
      have hpg : (h.p[g]'hgp).1 = sizeOf' (szs h.p) g := (size_of_at hgp).symm
      refine ⟨_, rfl, ?_⟩
      simp only [evs_, c_l_look_6, dLc, wipeW, ld_program (H3 _), encP, prog_at hgp, encF, hpg]
      have hrl : rangeL 0 (sizeOf' (szs h.p) g : Int) = ((List.range (sizeOf' (szs h.p) g)).map fun k : Nat => (W.int k, some (W.tup [.int ((h.t.beg (szs h.p) i + (mksL (szs h.p) ((h.t.part i).take m)).length + k : Nat) : Int), encM (g, k)]))).map (·.1) := by
        rw [rangeL_natI, ← wInts_eq]; unfold wInts; rw [List.map_map]; rfl
      refine ⟨by rw [recv_mup]; rfl, by omega, by omega, by rw [rangeL_len]; exact szl (by omega), lc_of _ hrl (fun _ _ _ => trivial) (fun D hD pr hp us => ?_) ?_⟩
      · obtain ⟨k, hk, rfl⟩ := List.mem_map.mp hp
        refine ⟨_, rfl, fun R h => h, fun y hy R h2 => ?_⟩
        cases hy
        simp only [evs_, ld_laid ((H3 _).new hD), laidL, laidL_at hgp]
        rw [hcell]
        rw [mks_len] at h2
        have e : ∀ a b c : Nat, ((a + b : Nat) : Int) + (c : Int) = ((a + b + c : Nat) : Int) := fun a b c => by omega
        rw [e]
        exact ⟨by decide, by decide, h2⟩
      · rw [fm_some]
        have e2 : ∀ b : Nat, ((List.range (sizeOf' (szs h.p) g)).map fun k => W.tup [.int ((b + k : Nat) : Int), encM (g, k)]) = mkW b ((List.range (sizeOf' (szs h.p) g)).map fun k => (g, k)) := fun b => mkW_one.symm
        rw [e2]
        simp only [BM.w, cls_ext, ext_mup]
        refine ⟨szl (by rw [mkW_len, mkW_len, mks_len, List.length_map, List.length_range]; omega), hK2 _ _ ⟨⟨_, _, _, _, rfl⟩, ?_⟩⟩
        rw [htk2, mksL_app, mkW_app]
    · obtain ⟨⟨x5, x6, x7, x8, rfl⟩, rfl⟩ := hI
      rw [wInts_len, Nat.zero_add, List.take_length, mks_eq]
      simp only [evs_, c_l_look_5, dLc, wipeW]
      have hxm : mkW (h.t.beg (szs h.p) i) (h.t.mks (szs h.p) i) = (((h.t.mks (szs h.p) i).zipIdx (h.t.beg (szs h.p) i)).map fun mc => (W.tup [.int (mc.2 : Nat), encM mc.1], if L' mc.2 = some mc.1 then none else some (W.int (mc.2 : Nat)))).map (·.1) := by
        rw [List.map_map]; rfl
      have hBD : ∀ (D : Addr) (acc : List W), (mup M' B (.lst (mkW (h.t.beg (szs h.p) i) (h.t.mks (szs h.p) i)))) D = none → (mup (mup M' B (.lst (mkW (h.t.beg (szs h.p) i) (h.t.mks (szs h.p) i)))) D (.lst acc)) B = some (.lst (mkW (h.t.beg (szs h.p) i) (h.t.mks (szs h.p) i))) := fun D acc hD => by
        rw [mup_off (fun z => by rw [← z, mup_at] at hD; cases hD)]; exact mup_at
      refine ⟨_, mup_at, szl (by rw [mkW_len, mk_len]; omega), fun D0 hD0 => ⟨hBD _ _ hD0, lc_of _ hxm hBD (fun D hD pr hp us => ?_) ?_ D0 hD0⟩⟩
      · obtain ⟨⟨m, c⟩, hm, rfl⟩ := List.mem_map.mp hp
        have hc := List.mem_zipIdx hm
        rw [mk_len] at hc
        have hcr : c < h.room := by omega
        refine ⟨_, rfl, fun R h2 => ?_, fun y hy R h2 => ?_⟩
        · simp only [evs_, ld_cells ((H3 _).new hD), idx_ref ((H3 _).new hD).hl, lies_at hcr, ne_mark]
          by_cases e : L' c = some m
          · simp [e] at h2 ⊢; exact h2
          · simp [e] at h2 ⊢; exact h2
        · by_cases e : L' c = some m
          · simp [e] at hy
          · simp [e] at hy
            subst hy
            exact ⟨_, rfl, h2⟩
      · obtain ⟨ns, e1, e2⟩ := miss_ns (h := h) (L := L') (i := i)
        rw [e1, ne_lst0 pl_cells]
        have e3 : decide (wInts ns = []) = h.t.isB (szs h.p) L' i := by
          rw [Bool.eq_iff_iff, isB_iff, ← e2]
          simp [wInts]
        rw [e3]
        by_cases hin : h.t.isIn (szs h.p) L' i
        · have fr3 : Fr h.x h.l M (mup M' B (.lst (mkW (h.t.beg (szs h.p) i) (h.t.mks (szs h.p) i)))) := fun b u hb h1 h2 => by
            rw [mup_off (fun z => by rw [← z, fr _ _ hb h1 h2] at hB; cases hB)]
            exact fr b u hb h1 h2
          rw [isB_iff.mpr hin]
          simp only [evs_, dX]
          exact hK _ _ ⟨⟨_, _, _, _, _, _, rfl⟩, found, L', htk ▸ lk.keep hin hdj, H3 _, by rw [mup_off (Ne.symm nBR)]; exact hMR, fr3, by omega⟩
        · have e0 : h.t.isB (szs h.p) L' i = false := by
            cases e : h.t.isB (szs h.p) L' i with
            | false => rfl
            | true => exact absurd (isB_iff.mp e) hin
          rw [e0]
          have hMR2 : (mup M' B (.lst (mkW (h.t.beg (szs h.p) i) (h.t.mks (szs h.p) i)))) R = some (.lst (wInts found)) := by rw [mup_off (Ne.symm nBR)]; exact hMR
          simp only [evs_, c_l_look_7, BM.recv, BM.w, cls_app, app_ref hMR2]
          refine ⟨⟨_, hMR2⟩, szl (by rw [wInts_len]; omega), ?_⟩
          have H4 := (H3 (mkW (h.t.beg (szs h.p) i) (h.t.mks (szs h.p) i))).up (o := .lst (wInts found ++ [W.int i])) nR.1 nR.2
          have hR4 : (mup (mup M' B (.lst (mkW (h.t.beg (szs h.p) i) (h.t.mks (szs h.p) i)))) R (.lst (wInts found ++ [W.int i]))) R = some (.lst (wInts (found ++ [i]))) := by rw [mup_at, ← wInts_app]; rfl
          have hB4 : (mup (mup M' B (.lst (mkW (h.t.beg (szs h.p) i) (h.t.mks (szs h.p) i)))) R (.lst (wInts found ++ [W.int i]))) B = some (.lst (mkW (h.t.beg (szs h.p) i) (h.t.mks (szs h.p) i))) := by rw [mup_off nBR]; exact mup_at
          have fr4 : Fr h.x h.l M (mup (mup M' B (.lst (mkW (h.t.beg (szs h.p) i) (h.t.mks (szs h.p) i)))) R (.lst (wInts found ++ [W.int i]))) := fun b u hb h1 h2 => by
            rw [mup_off (fun z => by rw [z, hR] at hb; cases hb), mup_off (fun z => by rw [← z, fr _ _ hb h1 h2] at hB; cases hB)]
            exact fr b u hb h1 h2
          generalize mup (mup M' B (.lst (mkW (h.t.beg (szs h.p) i) (h.t.mks (szs h.p) i)))) R (.lst (wInts found ++ [W.int i])) = M4 at H4 hR4 hB4 fr4 ⊢
          simp only [evs_, c_l_look_8]
          refine ⟨_, hB4, for_inv (fun m σ M2 => (∃ x5 x6 x7 x8, σ = [some (.ref h.x), some (.int f), some (.ref R), some (.int i), some (.ref B), x5, x6, x7, x8]) ∧ LallAt h (h.t.brg (szs h.p) L' i m) (many + (found.map (h.t.psz (szs h.p))).sum) M2 ∧ M2 B = some (.lst (mkW (h.t.beg (szs h.p) i) (h.t.mks (szs h.p) i))) ∧ M2 R = some (.lst (wInts (found ++ [i]))) ∧ Fr h.x h.l M M2) (fun _ _ _ h => h.2.2.1) _ 0 ⟨⟨_, _, _, _, rfl⟩, by rw [brg_zero]; exact H4, hB4, hR4, fr4⟩ (fun m w σ M2 K2 hw hI hK2 => ?_) (fun σ M2 hI => ?_)⟩
          · obtain ⟨⟨x5, x6, x7, x8, rfl⟩, H5, hB5, hR5, fr5⟩ := hI
            rw [Nat.zero_add] at H5 hK2
            obtain ⟨mk, hmk, rfl⟩ := mkW_get hw
            have hml := (List.getElem?_eq_some_iff.mp hmk).1
            rw [mk_len] at hml
            refine ⟨_, rfl, ?_⟩
            have hcr : h.t.beg (szs h.p) i + m < h.room := by omega
            simp only [evs_, c_l_look_10, ld_cells H5]
            refine ⟨_, H5.hl, h.t.beg (szs h.p) i + m, by rw [lies_len]; exact ixN_nat hcr, ?_⟩
            rw [lies_set, ← brg_succ hmk]
            refine hK2 _ _ ⟨⟨_, _, _, _, rfl⟩, ⟨by rw [mup_off H5.ne]; exact H5.hx, mup_at⟩, by rw [mup_off nB.2]; exact hB5, by rw [mup_off nR.2]; exact hR5, fun b u hb h1 h2 => ?_⟩
            rw [mup_off h2]
            exact fr5 b u hb h1 h2
          · obtain ⟨⟨x5, x6, x7, x8, rfl⟩, H5, hB5, hR5, fr5⟩ := hI
            rw [Nat.zero_add, mkW_len, mk_len] at H5
            simp only [evs_, c_l_look_9, ld_many H5, len_ref hB5, mkW_len, mk_len]
            refine ⟨_, _, _, rfl, rfl, H5.hx, (by show (5 : Nat) < sizeLine; decide), hK _ _ ⟨⟨_, _, _, _, _, _, rfl⟩, found ++ [i], _, htk ▸ lk.bring hin hdj, ⟨?_, by rw [mup_off (Ne.symm H5.ne)]; exact H5.hl⟩, by rw [mup_off nR.1]; exact hR5, fun b u hb h1 h2 => (by rw [mup_off h1]; exact fr5 b u hb h1 h2), by simp; omega⟩⟩
            rw [mup_at, List.map_append, List.sum_append]
            simp only [List.map_cons, List.map_nil, List.sum_cons, List.sum_nil, Nat.add_zero]
            rw [← Nat.add_assoc]
            rfl
  · obtain ⟨⟨x3, x4, x5, x6, x7, x8, rfl⟩, found, L', lk, H2, hMR, fr, hfl⟩ := hI
    rw [Nat.zero_add, wInts_len] at lk hfl
    rw [List.take_length] at lk
    simp only [evs_, c_l_look_2]
    rw [frz_ref hMR]
    have H3 : LallAt h L' (many + (found.map (h.t.psz (szs h.p))).sum) (mdel M' R) := ⟨by unfold mdel; rw [if_neg (Ne.symm nR.1)]; exact H2.hx, by unfold mdel; rw [if_neg (Ne.symm nR.2)]; exact H2.hl⟩
    refine fgQ.of (q found L' _ lk H3 (fun b u hb h1 h2 => ?_) (by omega))
    unfold mdel
    rw [if_neg (fun z => by rw [z, hR] at hb; cases hb)]
    exact fr b u hb h1 h2
end WL
namespace WL
open PySem L2
def c_l_leaf_3 : Ss := .cons (.asg (.name 3) (.bin .Add false (.var 3) (.lst false (.cons (.tup (.cons (.lit (.str "num")) (.cons (.idx (.lst false (.cons (.call 45 (.cons (.var 0) (.cons (.lit (.int 4)) .nil))) (.cons (.call 45 (.cons (.var 0) (.cons (.lit (.int 100)) .nil))) .nil))) (.call 45 (.cons (.var 0) (.cons (.lit (.int 2)) .nil)))) .nil))) .nil)))) .nil
def c_l_leaf_4 : Ss := .cons (.asg (.name 3) (.bin .Add false (.var 3) (.lc false (.tup (.cons (.lit (.str "way")) (.cons (.idx (.dget (.var 1) (.lit (.str "plain"))) (.call 45 (.cons (.var 0) (.cons (.blt false .len (.cons (.dget (.var 1) (.lit (.str "plain"))) .nil)) .nil)))) .nil))) (.name 4) (.rg1 (.lit (.int 2))) .none [("_law_k", 4)]))) .nil
def c_l_leaf_2 : Ss := .cons (.ret (.idx (.var 3) (.call 45 (.cons (.var 0) (.cons (.blt false .len (.cons (.var 3) .nil)) .nil))))) .nil
def c_l_leaf_1 : Ss := .cons (.ite (.cmp .Eq (.var 2) (.lit (.str "number"))) c_l_leaf_3 c_l_leaf_4) c_l_leaf_2
def c_l_leaf : Ss := .cons (.asg (.name 3) (.bin .Mult false (.bin .Mult false (.lst false (.cons (.tup (.cons (.lit (.str "argument")) .nil)) .nil)) (.lit (.int 3))) (.blt false .int (.cons (.cmp .Eq (.dget (.var 1) (.lit (.str "came"))) (.var 2)) .nil)))) c_l_leaf_1
def n_l_leaf : List Str := ["_law_h", "_law_e", "_law_kind_here", "_law_some", "_law_k"]
def c_l_call_6 : Ss := .cons (.ret (.tup (.cons (.lit (.str "through")) (.cons (.call 50 (.cons (.var 0) (.cons (.var 1) (.cons (.lit (.str "way")) (.cons (.bin .Sub false (.var 2) (.lit (.int 1))) .nil))))) (.cons (.call 49 (.cons (.var 0) (.cons (.var 1) (.cons (.bin .Sub false (.var 2) (.lit (.int 1))) .nil)))) .nil))))) .nil
def c_l_call_7 : Ss := .cons (.asg (.name 4) (.idx (.lst false (.cons (.lit (.str "number")) (.cons (.lit (.str "way")) .nil))) (.call 45 (.cons (.var 0) (.cons (.lit (.int 2)) .nil))))) .nil
def c_l_call_5 : Ss := .cons (.ret (.tup (.cons (.lit (.str "call")) (.cons (.var 3) (.cons (.var 5) .nil))))) .nil
def c_l_call_4 : Ss := .cons (.asg (.name 5) (.ite (.cmp .Eq (.var 4) (.lit (.str "number"))) (.call 49 (.cons (.var 0) (.cons (.var 1) (.cons (.bin .Sub false (.var 2) (.lit (.int 1))) .nil)))) (.call 50 (.cons (.var 0) (.cons (.var 1) (.cons (.lit (.str "way")) (.cons (.bin .Sub false (.var 2) (.lit (.int 1))) .nil))))))) c_l_call_5
def c_l_call_3 : Ss := .cons (.ite (.cmp .Eq (.call 45 (.cons (.var 0) (.cons (.lit (.int 12)) .nil))) (.lit (.int 0))) c_l_call_7 .nil) c_l_call_4
def c_l_call_2 : Ss := .cons (.asg (.name 4) (.idx (.dget (.var 1) (.lit (.str "kinds"))) (.var 3))) c_l_call_3
def c_l_call_1 : Ss := .cons (.asg (.name 3) (.call 45 (.cons (.var 0) (.cons (.blt false .len (.cons (.dget (.var 1) (.lit (.str "kinds"))) .nil)) .nil)))) c_l_call_2
def c_l_call : Ss := .cons (.ite (.cmp .Eq (.call 45 (.cons (.var 0) (.cons (.lit (.int 3)) .nil))) (.lit (.int 0))) c_l_call_6 .nil) c_l_call_1
def n_l_call : List Str := ["_law_h", "_law_e", "_law_deep", "_law_called", "_law_kind_here", "_law_arm"]
def c_l_body_9 : Ss := .cons (.ret (.call 47 (.cons (.var 0) (.cons (.var 1) (.cons (.var 2) .nil))))) .nil
def c_l_body_11 : Ss := .cons (.ret (.tup (.cons (.lit (.str "if")) (.cons (.var 6) (.cons (.call 50 (.cons (.var 0) (.cons (.var 1) (.cons (.var 2) (.cons (.bin .Sub false (.var 3) (.lit (.int 1))) .nil))))) (.cons (.call 50 (.cons (.var 0) (.cons (.var 1) (.cons (.var 2) (.cons (.bin .Sub false (.var 3) (.lit (.int 1))) .nil))))) .nil)))))) .nil
def c_l_body_10 : Ss := .cons (.asg (.name 6) (.call 50 (.cons (.var 0) (.cons (.var 1) (.cons (.lit (.str "number")) (.cons (.bin .Sub false (.var 3) (.lit (.int 1))) .nil)))))) c_l_body_11
def c_l_body_13 : Ss := .cons (.ret (.tup (.cons (.lit (.str "then")) (.cons (.call 50 (.cons (.var 0) (.cons (.var 1) (.cons (.var 7) (.cons (.bin .Sub false (.var 3) (.lit (.int 1))) .nil))))) (.cons (.call 50 (.cons (.var 0) (.cons (.var 1) (.cons (.var 2) (.cons (.bin .Sub false (.var 3) (.lit (.int 1))) .nil))))) .nil))))) .nil
def c_l_body_12 : Ss := .cons (.asg (.name 7) (.idx (.lst false (.cons (.lit (.str "number")) (.cons (.lit (.str "way")) .nil))) (.call 45 (.cons (.var 0) (.cons (.lit (.int 2)) .nil))))) c_l_body_13
def c_l_body_14 : Ss := .cons (.ret (.call 47 (.cons (.var 0) (.cons (.var 1) (.cons (.var 2) .nil))))) .nil
def c_l_body_15 : Ss := .cons (.ret (.call 48 (.cons (.var 0) (.cons (.var 1) (.cons (.var 3) .nil))))) .nil
def c_l_body_16 : Ss := .cons (.ret (.tup (.cons (.lit (.str "say")) (.cons (.call 50 (.cons (.var 0) (.cons (.var 1) (.cons (.lit (.str "number")) (.cons (.bin .Sub false (.var 3) (.lit (.int 1))) .nil))))) .nil)))) .nil
def c_l_body_8 : Ss := .cons (.ret (.tup (.cons (.var 5) (.cons (.call 50 (.cons (.var 0) (.cons (.var 1) (.cons (.lit (.str "number")) (.cons (.bin .Sub false (.var 3) (.lit (.int 1))) .nil))))) (.cons (.call 50 (.cons (.var 0) (.cons (.var 1) (.cons (.lit (.str "number")) (.cons (.bin .Sub false (.var 3) (.lit (.int 1))) .nil))))) .nil))))) .nil
def c_l_body_7 : Ss := .cons (.asg (.name 5) (.idx (.lst false (.cons (.lit (.str "plus")) (.cons (.lit (.str "less")) (.cons (.lit (.str "times")) .nil)))) (.call 45 (.cons (.var 0) (.cons (.lit (.int 3)) .nil))))) c_l_body_8
def c_l_body_6 : Ss := .cons (.ite (.cmp .Eq (.var 4) (.lit (.int 8))) c_l_body_16 .nil) c_l_body_7
def c_l_body_5 : Ss := .cons (.ite (.cmp .Lt (.var 4) (.lit (.int 8))) c_l_body_15 .nil) c_l_body_6
def c_l_body_4 : Ss := .cons (.ite (.cmp .Eq (.var 2) (.lit (.str "way"))) c_l_body_14 .nil) c_l_body_5
def c_l_body_3 : Ss := .cons (.ite (.cmp .Eq (.var 4) (.lit (.int 3))) c_l_body_12 .nil) c_l_body_4
def c_l_body_2 : Ss := .cons (.ite (.cmp .Lt (.var 4) (.lit (.int 3))) c_l_body_10 .nil) c_l_body_3
def c_l_body_1 : Ss := .cons (.ite (.bool false (.cons (.cmp .Lt (.var 3) (.lit (.int 1))) (.cons (.cmp .Lt (.var 4) (.lit (.int 2))) .nil))) c_l_body_9 .nil) c_l_body_2
def c_l_body : Ss := .cons (.asg (.name 4) (.call 45 (.cons (.var 0) (.cons (.lit (.int 10)) .nil)))) c_l_body_1
def n_l_body : List Str := ["_law_h", "_law_e", "_law_kind_here", "_law_deep", "_law_turn", "_law_word", "_law_test", "_law_other"]
theorem rs_int {n : Nat} {M : Mh} {i : Int} : Rs n M (.int i) (.int i) := by cases n <;> rfl
def sp_l_leaf : Nat → Wp := sp_l_leaf_v1
def sp_l_call : Nat → Wp := sp_l_call_v2
def sp_l_body : Nat → Wp := sp_l_body_v1
theorem keep_l_leaf {Γ : Gam} {k : Nat} (f_l_next : Γ.fn 45 = dn sp_l_next k) : KeepC Γ n_l_leaf 3 c_l_leaf (sp_l_leaf k) := keep_l_leaf_v1 f_l_next
theorem keep_l_call {Γ : Gam} {k : Nat} (f_l_next : Γ.fn 45 = dn sp_l_next k) (f_l_body : Γ.fn 50 = dn sp_l_body k) (f_l_less : Γ.fn 49 = dn sp_l_less k) : KeepC Γ n_l_call 3 c_l_call (sp_l_call k) := keep_l_call_v2 f_l_next f_l_body f_l_less
theorem keep_l_body {Γ : Gam} {k : Nat} (f_l_next : Γ.fn 45 = dn sp_l_next k) (f_l_leaf : Γ.fn 47 = dn sp_l_leaf k) (f_l_body : Γ.fn 50 = dn sp_l_body k) (f_l_call : Γ.fn 48 = dn sp_l_call k) : KeepC Γ n_l_body 4 c_l_body (sp_l_body k) := keep_l_body_v1 f_l_next f_l_leaf f_l_body f_l_call
end WL
namespace WL
open PySem L2
local macro_rules | `(tactic| simp only [evs_, $xs,*]) => `(tactic| simp only [dX, dXs, dXo, dXi, dSc, d2, d1, dN, dVar, dC, dTup, dLst, dTru, dB, dChain, dIte, dNotV, dNotT, dJoinV, dJoinT, dNil, dCons, dCall, dBM, dIsi, dIsi2, dAttr, dMeth, dNew, dDget, dDin, dDnew, dKidx, dKin, dKget, dDisp, dFrz, dRev, dLrg, dSset, dSlice, dNoPart, dPart, dDfz, dRaise, dTry, dCatch, dKind, isx_eq, xfl_eq, dIsc, Gam.low, dAsg, dExpr, dRet, dIf, dFld, dSet, dDput, dNever, dFor, dNext, binP, cmpP, iSeqD, iRg1, iRg2, iZip, iEnumD, Tg.asg, setAll, List.set, List.map_cons, List.map_nil, subW, modW, fdivW, powW, ltW, leW, gtW, geW, newL, finD, frzO, tupW, listW, oneW, twoW, BI.w, ints_eq, add_int, add_str, add_tup, add_lst, mul_int, mul_lst, mul_tup, idx_tup, idx_lst, idx_scr, idx_str, len_tup, len_lst, len_scr, len_str, sl_tup, sl_lst, neg_int, str_int, str_str, int_int, int_bl, is_non, is_int, is_str, is_tup, is_lst, is_bl, is_bb, dss_cons, eq_int, eq_str, eq_bl, ne_int, ne_str, ne_bl, eq_nilL, ty_non, ty_bl, ty_int, ty_str, ty_tup, ty_lst, ty_scr, ty_dk, Ty.sub, tr_bl, tr_non, tr_int, tr_str, sv_lst, sv_tup, sv_scr, lv_lst, at0, at1, at2, cut1, len0, ss_nil, for_nil, for_cons, pairs_cons, pairs_nil, pairs_nil', walk_lst, walk_scr, walk_tup, walk_str, walk_ref, List.getElem?_cons_zero, List.getElem?_cons_succ, List.length_cons, List.length_nil, List.append_nil, List.cons_append, List.nil_append, Option.some.injEq, W.int.injEq, W.str.injEq, W.bl.injEq, W.tup.injEq, W.lst.injEq, W.ref.injEq, List.cons.injEq, Option.map_some, exists_and_left, exists_and_right, exists_eq_left, exists_eq_left', exists_eq, exists_eq', exists_eq_right, exists_eq_right', and_true, true_and, and_assoc, reduceIte, reduceCtorEq, decide_true, decide_false, decide_eq_true_eq, decide_eq_false_iff_not, Bool.not_eq_true', Bool.not_eq_false', Bool.true_eq_false, Bool.false_eq_true, if_true, if_false, Bool.not_true, Bool.not_false, ite_true, ite_false, Int.cast_ofNat_Int, Int.reduceAdd, Int.reduceSub, Int.reduceEq, Int.reduceLT, Int.reduceLE, Int.natCast_add, Nat.reduceEqDiff, Nat.reduceAdd, Nat.add_zero, Nat.zero_add, Nat.succ_ne_zero, not_true_eq_false, not_false_eq_true, Option.getD_some, Option.getD_none, Option.isSome_some, Option.isSome_none, $xs,*])
def c_l_kind_8 : Ss := .cons (.ret (.lit (.str "other"))) .nil
def c_l_kind_9 : Ss := .cons (.ret (.ite (.idx (.var 2) (.lit (.int 0))) (.tup (.cons (.lit (.str "BadProgram")) (.cons (.xfl 1 "function") .nil))) (.tup (.cons (.lit (.str "BadText")) (.cons (.xfl 1 "row") (.cons (.xfl 1 "place") .nil)))))) .nil
def c_l_kind_7 : Ss := .cons (.ret (.idx (.bin .Add false (.var 3) (.lst false (.cons (.lit (.str "TooMany")) .nil))) (.bm false .index (.var 2) (.cons (.lit (.bl true)) .nil)))) .nil
def c_l_kind_6 : Ss := .cons (.asg (.name 3) (.lst false (.cons (.lit (.str "")) (.cons (.lit (.str "BadNumber")) (.cons (.lit (.str "BadTree")) (.cons (.lit (.str "BadRoom")) (.cons (.lit (.str "BadFunction")) (.cons (.lit (.str "BadPaper")) (.cons (.lit (.str "NotShown")) (.cons (.lit (.str "BadPlace")) (.cons (.lit (.str "BadTrace")) .nil))))))))))) c_l_kind_7
def c_l_kind_5 : Ss := .cons (.ite (.bool false (.cons (.idx (.var 2) (.lit (.int 0))) (.cons (.idx (.var 2) (.lit (.int 10))) .nil))) c_l_kind_9 .nil) c_l_kind_6
def c_l_kind_4 : Ss := .cons (.ite (.bool false (.cons (.cmp .NotEq (.bm false .count (.var 2) (.cons (.lit (.bl true)) .nil)) (.lit (.int 1))) (.cons (.not (.isx 1 .none)) .nil))) c_l_kind_8 .nil) c_l_kind_5
def c_l_kind_3 : Ss := .cons (.expr (.bm true .append (.var 2) (.cons (.isx 1 (.some 11)) .nil))) c_l_kind_4
def c_l_kind_2 : Ss := .cons (.asg (.name 2) (.bin .Add true (.var 2) (.lst false (.cons (.isx 1 (.some 8)) (.cons (.isx 1 (.some 9)) (.cons (.isx 1 (.some 10)) .nil)))))) c_l_kind_3
def c_l_kind_1 : Ss := .cons (.asg (.name 2) (.bin .Add true (.var 2) (.lst false (.cons (.isx 1 (.some 5)) (.cons (.isx 1 (.some 6)) (.cons (.isx 1 (.some 7)) .nil)))))) c_l_kind_2
def c_l_kind : Ss := .cons (.asg (.name 2) (.lst true (.cons (.isx 1 (.some 1)) (.cons (.isx 1 (.some 2)) (.cons (.isx 1 (.some 3)) (.cons (.isx 1 (.some 4)) .nil)))))) c_l_kind_1
def n_l_kind : List Str := ["_law_work", "_law_e", "_law_kinds", "_law_words_here"]
def isxL (hl : List (Nat × Str)) (c : Option Nat) (k : Nat) : Option Bool := (hl.lookup k).bind fun xk => match c with
  | none => some true
  | some c => (hl.lookup c).map fun xc => decide (xk = xc)
def hl11 : List (Nat × Str) := [(1, "BadProgram"), (2, "BadNumber"), (3, "BadTree"), (4, "BadRoom"), (5, "BadFunction"), (6, "BadPaper"), (7, "NotShown"), (8, "BadPlace"), (9, "BadTrace"), (10, "TooMany"), (11, "BadText")]
theorem isx_some {c k : Nat} (hc : c < 12 ∧ 1 ≤ c) (hk : k < 12 ∧ 1 ≤ k) : isxL hl11 (some c) k = some (decide (k = c)) := by
  have : ∀ c < 12, ∀ k < 12, 1 ≤ c → 1 ≤ k → isxL hl11 (some c) k = some (decide (k = c)) := by decide +kernel
  exact this c hc.1 k hk.1 hc.2 hk.2
theorem isx_none {k : Nat} (hk : k < 12 ∧ 1 ≤ k) : isxL hl11 none k = some true := by
  have : ∀ k < 12, 1 ≤ k → isxL hl11 none k = some true := by decide +kernel
  exact this k hk.1 hk.2
theorem isx_val {c k : Nat} : isxL hl11 (some c) k = if (c < 12 ∧ 1 ≤ c) ∧ k < 12 ∧ 1 ≤ k then some (decide (k = c)) else none := by
  split
  · rename_i h; exact isx_some h.1 h.2
  · rename_i h
    have : ∀ j : Nat, ¬ (j < 12 ∧ 1 ≤ j) → hl11.lookup j = none := fun j hj => by
      have ne : ∀ m, m < 12 ∧ 1 ≤ m → (j == m) = false := fun m hm => by
        have : j ≠ m := by omega
        simpa using this
      simp [hl11, List.lookup, ne]
    unfold isxL
    by_cases hk : k < 12 ∧ 1 ≤ k
    · have hc : ¬ (c < 12 ∧ 1 ≤ c) := fun z => h ⟨z, hk⟩
      cases e : hl11.lookup k with
      | none => rfl
      | some x => simp [this c hc]
    · rw [this k hk]; rfl
def kindW (y : Xn) : Option W :=
  if y.cls = 1 then (y.fs.lookup ("function" : Str)).map fun w => .tup [.str "BadProgram", w]
  else if y.cls = 11 then (y.fs.lookup ("row" : Str)).bind fun r => (y.fs.lookup ("place" : Str)).map fun p => .tup [.str "BadText", r, p]
  else if 2 ≤ y.cls ∧ y.cls ≤ 10 then (hl11.lookup y.cls).map W.str
  else none
def kindP : Xn → Mh → QW → Prop := fun y M Q => flatX y.fs = true ∧ ∃ w, kindW y = some w ∧ ∀ M', Sub M M' → Q w M'
theorem keep_l_kind {Γ : Gam} (hx : Γ.isx = isxL hl11) (hs : ∀ k, k < 12 ∧ 1 ≤ k → Γ.sub 0 k = some true) (hf1 : Γ.xf 1 "function" = true) (hf2 : Γ.xf 11 "row" = true) (hf3 : Γ.xf 11 "place" = true) :
    ∀ y M Q, kindP y M Q → dCatch (Γ.sub 0) (fun a y => dSs (Γ.held a y) c_l_kind) 1 4 (dvK Q) y M := by
  rintro ⟨c, fs⟩ M Q ⟨hfl, w, hw, q⟩
  have hc : c < 12 ∧ 1 ≤ c := by
    unfold kindW at hw
    simp only at hw
    split at hw
    · omega
    · split at hw
      · omega
      · split at hw
        · omega
        · cases hw
  refine ⟨true, hs c hc, fun _ => ⟨hfl, fun a ha => ?_⟩, fun h => nomatch h⟩
  show dSs _ _ _ [none, some (.ref a), none, none] M
  have i1 := fun d (hd : d < 12 ∧ 1 ≤ d) => isx_some hd hc
  have j0 := isx_none hc
  simp only [evs_, c_l_kind, hx, held_xn, held_isx, i1 1 (by decide), i1 2 (by decide), i1 3 (by decide), i1 4 (by decide)]
  refine ⟨by decide, fun p1 hp1 => ?_⟩
  simp only [evs_, c_l_kind_1, hx, held_xn, held_isx, i1 5 (by decide), i1 6 (by decide), i1 7 (by decide)]
  refine ⟨by decide, _, _, lv_ref mup_same, lv_lst, szl (by simp), fun p2 hp2 => ?_⟩
  simp only [evs_, c_l_kind_2, hx, held_xn, held_isx, i1 8 (by decide), i1 9 (by decide), i1 10 (by decide)]
  refine ⟨by decide, _, _, lv_ref mup_same, lv_lst, szl (by simp), fun p3 hp3 => ?_⟩
  simp only [evs_, c_l_kind_3, hx, held_xn, held_isx, i1 11 (by decide), BM.w, appendW, BM.recv, BM.cls, mup_same]
  have key : ∀ M4 : Mh, M4 p3 = some (.lst ((List.range 11).map fun i => W.bl (decide (c = i + 1)))) → Sub M M4 → dSs (Γ.held a ⟨c, fs⟩) c_l_kind_4
      { nx := fun σ M2 => (dvK Q).nx (List.set σ 1 none) M2, rt := (dvK Q).rt, bk := fun σ M2 => (dvK Q).bk (List.set σ 1 none) M2, ct := fun σ M2 => (dvK Q).ct (List.set σ 1 none) M2, ex := noX }
      [none, some (W.ref a), some (W.ref p3), none] M4 := fun M4 h4 sb => by
    have fin : ∀ w', kindW ⟨c, fs⟩ = some w' → fgQ Q w' M4 := fun w' e => by
      rw [hw] at e
      cases e
      exact .of (q M4 sb)
    have idx : ∀ i < 11, atI ((List.range 11).map fun i => W.bl (decide (c = i + 1))) (i : Nat) = some (.bl (decide (c = i + 1))) := fun i hi => atN (by rw [List.getElem?_map, List.getElem?_range hi]; rfl)
    have fl : (((List.range 11).map fun i => W.bl (decide (c = i + 1)))).all flatW = true := by rw [List.all_map]; exact List.all_eq_true.mpr fun _ _ => rfl
    have h11 : c = 1 ∨ c = 2 ∨ c = 3 ∨ c = 4 ∨ c = 5 ∨ c = 6 ∨ c = 7 ∨ c = 8 ∨ c = 9 ∨ c = 10 ∨ c = 11 := by omega
    have cnt : (((List.range 11).map fun i => W.bl (decide (c = i + 1))).countP fun z => eqF z (.bl true)) = 1 := by
      rcases h11 with rfl | rfl | rfl | rfl | rfl | rfl | rfl | rfl | rfl | rfl | rfl <;> decide
    simp only [evs_, c_l_kind_4, held_xn, held_isx, hx, j0, BM.w, BM.recv, BM.cls, h4]
    refine ⟨⟨_, rfl⟩, _, _, lv_ref h4, rfl, rfl, fl, ?_⟩
    rw [cnt]
    simp only [evs_, Int.natCast_one]
    simp only [evs_, c_l_kind_5, idx_ref h4]
    have x0 : atI ((List.range 11).map fun i => W.bl (decide (c = i + 1))) 0 = some (.bl (decide (c = 1))) := idx 0 (by decide)
    have x10 : atI ((List.range 11).map fun i => W.bl (decide (c = i + 1))) 10 = some (.bl (decide (c = 11))) := idx 10 (by decide)
    refine ⟨_, x0, ?_⟩
    by_cases c1 : c = 1
    · subst c1
      simp only [evs_, dX]
      simp only [evs_, c_l_kind_9, held_xn, held_xf, hf1, idx_ref h4]
      refine ⟨_, x0, ?_⟩
      simp only [evs_, dX]
      cases hfn : fs.lookup ("function" : Str) with
      | none => simp [kindW, hfn] at hw
      | some v =>
        refine ⟨v, rfl, by decide, fin _ ?_⟩
        simp [kindW, hfn]
    · simp only [evs_, c1]
      refine ⟨_, x10, ?_⟩
      by_cases c11 : c = 11
      · subst c11
        simp only [evs_, dX]
        simp only [evs_, c_l_kind_9, held_xn, held_xf, hf2, hf3, idx_ref h4]
        refine ⟨_, x0, ?_⟩
        simp only [evs_, dX]
        cases hr : fs.lookup ("row" : Str) with
        | none => simp [kindW, hr] at hw
        | some r =>
          cases hp : fs.lookup ("place" : Str) with
          | none => simp [kindW, hr, hp] at hw
          | some pl =>
            refine ⟨r, rfl, pl, rfl, by decide, fin _ ?_⟩
            simp [kindW, hr, hp]
      · simp only [evs_, c11]
        simp only [evs_, c_l_kind_6]
        refine ⟨by decide, ?_⟩
        simp only [evs_, c_l_kind_7, BM.w, BM.recv, BM.cls, h4]
        refine ⟨by decide, by decide, ⟨_, rfl⟩, ?_⟩
        have hj : c - 1 < 11 := by omega
        refine ⟨_, _, c - 1, .bl true, lv_ref h4, rfl, rfl, fl, ?_, rfl, fun m z hm hz => ?_, ?_⟩
        · have e : c = c - 1 + 1 := by omega
          rw [List.getElem?_map, List.getElem?_range hj]
          simp [← e]
        · rw [List.getElem?_map, List.getElem?_range (by omega)] at hz
          cases hz
          have : c ≠ m + 1 := by omega
          simp [eqF, this]
        · show idxW _ _ _ _
          rw [idx_lst]
          have c9 : c = 2 ∨ c = 3 ∨ c = 4 ∨ c = 5 ∨ c = 6 ∨ c = 7 ∨ c = 8 ∨ c = 9 ∨ c = 10 := by omega
          rcases c9 with rfl | rfl | rfl | rfl | rfl | rfl | rfl | rfl | rfl <;> exact ⟨_, rfl, fin _ rfl⟩
  refine ⟨⟨_, rfl⟩, _, rfl, szl (by simp), ?_⟩
  refine key _ (by rw [mup_same]; rfl) fun b o hb => ?_
  have b1 : b ≠ p1 := m_ne hb hp1
  have b2 : b ≠ p2 := fun z => by rw [z] at hb b1; rw [mup_ne b1, hb] at hp2; cases hp2
  have b3 : b ≠ p3 := fun z => by rw [z] at hb b1 b2; rw [mup_ne b2, mup_ne b1, hb] at hp3; cases hp3
  rw [mup_ne b3, mup_ne b3, mup_ne b2, mup_ne b1]
  exact hb
end WL
namespace WL
open PySem PySem.Spec PyProof.Rows L2
def tvOf (e : DictEntry) : Option (Str × Int × Str) := match e.key, e.val with
  | .str x _, .str y _ => some (x, e.hash, y)
  | _, _ => none
def tvIn (P : Params) (tb : List (Str × Str)) : List (Option (Str × Int × Str)) := tb.map fun q => some (q.1, PyData.keyHash P q.1, q.2)
def dicV (K : PySem.W.Frag) (a : Addr) : Option (List (Option (Str × Int × Str))) := match K.lookup a with
  | some ⟨.type c, none, .dict es _, sl⟩ => (match decide (c = "dict") && (sl.isEmpty && !(a == sysModules)) with
    | true => some (es.toList.map tvOf)
    | false => none)
  | _ => none
theorem keys_tv {P : Params} : ∀ {l : List DictEntry} {tb : List (Str × Str)}, l.map tvOf = tvIn P tb → l.map He.keyOf = He.keysIn P (tb.map (·.1))
  | [], [], _ => rfl
  | [], _ :: _, h => by cases h
  | _ :: _, [], h => by cases h
  | e :: l, q :: tb, h => by
    have h : tvOf e :: l.map tvOf = some (q.1, PyData.keyHash P q.1, q.2) :: tvIn P tb := h
    injection h with h1 h2
    have ih := keys_tv h2
    show He.keyOf e :: l.map He.keyOf = some (q.1, PyData.keyHash P q.1) :: He.keysIn P (tb.map (·.1))
    rw [ih]
    congr 1
    unfold tvOf at h1
    unfold He.keyOf
    split at h1
    · rename_i x t y t2 hk hv
      rw [hk]
      have := Option.some.inj h1
      simp only [Prod.mk.injEq] at this
      rw [this.1, this.2.1]
    · cases h1
theorem dicV_W {K : PySem.W.Frag} {w : World} {a : Addr} {tb : List (Str × Str)} (h : dicV K a = some (tvIn w.params tb)) : He.dicW K a = some (He.keysIn w.params (tb.map (·.1))) := by
  unfold dicV at h
  unfold He.dicW
  split at h
  · rename_i c es n sl hl
    rw [hl]
    split at h
    · rename_i hc
      simp only [hc]
      rw [keys_tv (Option.some.inj h)]
    · cases h
  · cases h
def slook : List (Str × Str) → Str → Option Str
  | [], _ => none
  | (n, v) :: r, z => if z = n then some v else slook r z
theorem find_tv {P : Params} {z : Str} : ∀ {l : List DictEntry} {tb : List (Str × Str)}, l.map tvOf = tvIn P tb →
    (∀ v, slook tb z = some v → ∃ e t, l.find? (·.key.isStr z) = some e ∧ e.val = .str v t) ∧ (slook tb z = none → l.find? (·.key.isStr z) = none ∧ l.any (·.refKey) = false)
  | [], [], _ => ⟨fun _ h => (nomatch h), fun _ => ⟨rfl, rfl⟩⟩
  | [], _ :: _, h => by cases h
  | _ :: _, [], h => by cases h
  | e :: l, q :: tb, h => by
    have h : tvOf e :: l.map tvOf = some (q.1, PyData.keyHash P q.1, q.2) :: tvIn P tb := h
    injection h with h1 h2
    have ih := find_tv (z := z) h2
    obtain ⟨n, v⟩ := q
    unfold tvOf at h1
    split at h1
    · rename_i x t y t2 hk hv
      have h3 := Option.some.inj h1
      simp only [Prod.mk.injEq] at h3
      obtain ⟨rfl, _, rfl⟩ := h3
      have hs : e.key.isStr z = decide (z = x) := by
        rw [hk]
        show (x == z) = decide (z = x)
        by_cases q : z = x
        · subst q; simp
        · simp [q, Ne.symm q]
      have hr : e.refKey = false := by
        unfold DictEntry.refKey
        rw [hk]
      unfold slook
      rw [List.find?_cons, hs]
      by_cases hz : z = x
      · rw [if_pos hz, decide_eq_true hz]
        exact ⟨fun v hv' => (by cases hv'; exact ⟨e, t2, rfl, hv⟩), fun h => nomatch h⟩
      · rw [if_neg hz, decide_eq_false hz]
        refine ⟨ih.1, fun h => ⟨(ih.2 h).1, (by rw [List.any_cons, hr, (ih.2 h).2]; rfl)⟩⟩
    · cases h1
theorem tab_ok {K : PySem.W.Frag} {w : World} {a : Addr} {tb : List (Str × Str)} (h : dicV K a = some (tvIn w.params tb)) :
    (∃ es n, KDict K w a es n) ∧ ∀ z, ∃ r, PySem.W.nsIn K a z = some r ∧ (∀ v, slook tb z = some v → ∃ t, r = some (.str v t)) ∧ (slook tb z = none → r = none) := by
  refine ⟨He.dicW_ok (dicV_W h), fun z => ?_⟩
  unfold dicV at h
  split at h
  · rename_i c es n sl hl
    split at h
    · rename_i hc
      have f := find_tv (z := z) (Option.some.inj h)
      unfold PySem.W.nsIn
      rw [hl]
      cases hs : slook tb z with
      | none =>
        obtain ⟨h1, h2⟩ := f.2 hs
        refine ⟨none, ?_, fun _ q => (nomatch q), fun _ => rfl⟩
        simp only [h1, h2]
        rfl
      | some v =>
        obtain ⟨e, t, h1, h2⟩ := f.1 v hs
        refine ⟨some (.str v t), ?_, fun v' q => ⟨t, by cases q; rfl⟩, fun q => (nomatch q)⟩
        simp only [h1, h2]
    · cases h
  · cases h
mutual
def litB (K : PySem.W.Frag) : W → Value → Bool
  | .non, .none => true
  | .bl b, .bool c => b == c
  | .int i, .int j _ => decide (i = j)
  | .str x, .str y _ => decide (x = y)
  | .tup ws, .ref a => (match K.lookup a with
    | some ⟨.type c, _, .seq its _, _⟩ => decide (c = "tuple") && (decide (its.size ≤ sizeLine) && litsB K ws its.toList)
    | _ => false)
  | _, _ => false
def litsB (K : PySem.W.Frag) : List W → List Value → Bool
  | [], [] => true
  | w :: ws, u :: us => litB K w u && litsB K ws us
  | _, _ => false
end
mutual
theorem litB_ok {T : Tb} : ∀ {w : W} {u : Value}, litB T.K w u = true → ∃ v, RelV v u ∧ ∀ F H, RW T F H w v
  | .non, u, h => by
    cases u with
    | none => exact ⟨.non, rfl, fun _ _ => RW.non_.mpr rfl⟩
    | _ => simp [litB] at h
  | .bl b, u, h => by
    cases u with
    | bool c =>
      have : b = c := by simpa [litB] using h
      subst this
      exact ⟨.bl b, rfl, fun _ _ => RW.bl_.mpr rfl⟩
    | _ => simp [litB] at h
  | .int i, u, h => by
    cases u with
    | int j t =>
      have : i = j := by simpa [litB] using h
      subst this
      exact ⟨.int i, ⟨t, rfl⟩, fun _ _ => RW.int_.mpr rfl⟩
    | _ => simp [litB] at h
  | .str x, u, h => by
    cases u with
    | str y t =>
      have : x = y := by simpa [litB] using h
      subst this
      exact ⟨.str x, ⟨t, rfl⟩, fun _ _ => RW.str_.mpr rfl⟩
    | _ => simp [litB] at h
  | .tup ws, u, h => by
    cases u with
    | ref a =>
      simp only [litB] at h
      split at h
      · rename_i c od its n sl hl
        simp only [Bool.and_eq_true, decide_eq_true_eq] at h
        obtain ⟨h1, h2, h3⟩ := h
        obtain ⟨vs, h4, h5⟩ := litsB_ok h3
        exact ⟨.ref a, rfl, fun F H => RW.tup_.mpr ⟨a, vs, rfl, .inr ⟨_, its, n, hl, by rw [h1], rfl, h2, h4⟩, h5 F H⟩⟩
      · cases h
    | _ => simp [litB] at h
  | .ref _, u, h => by cases u <;> simp [litB] at h
  | .lst _, u, h => by cases u <;> simp [litB] at h
  | .scr _, u, h => by cases u <;> simp [litB] at h
  | .dk _ _, u, h => by cases u <;> simp [litB] at h
  | .dt _ _, u, h => by cases u <;> simp [litB] at h
  | .obj _ _ _, u, h => by cases u <;> simp [litB] at h
theorem litsB_ok {T : Tb} : ∀ {ws : List W} {us : List Value}, litsB T.K ws us = true → ∃ vs, Vals vs us ∧ ∀ F H, RWs T F H ws vs
  | [], [], _ => ⟨[], .nil, fun _ _ => .nil⟩
  | [], _ :: _, h => by simp [litsB] at h
  | _ :: _, [], h => by simp [litsB] at h
  | w :: ws, u :: us, h => by
    simp only [litsB, Bool.and_eq_true] at h
    obtain ⟨v, h1, h2⟩ := litB_ok h.1
    obtain ⟨vs, h3, h4⟩ := litsB_ok h.2
    exact ⟨v :: vs, .cons h1 h3, fun F H => .cons (h2 F H) (h4 F H)⟩
end
def litsAt (K : PySem.W.Frag) (lt : List (Str × W)) : Bool := lt.all fun q => litB K q.2 (.ref (He.ga K q.1))
abbrev AlW : Type := He.AlD × Option (List (Option (Str × Int × Str))) × Bool
def obsW (fa : List He.Fa) (fn : List He.DefD) (x : Str) (lt : List (Str × W)) (K : PySem.W.Frag) : AlW := (He.obsD fa fn K, dicV K (He.ga K x), litsAt K lt)
def valW (fn : List He.DefD) (tb : List (Str × Str)) (w : World) : AlW := (He.valD fn, some (tvIn w.params tb), true)
def SaysW (fa : List He.Fa) (fn : List He.DefD) (x : Str) (lt : List (Str × W)) (tb : List (Str × Str)) (w : World) (K : PySem.W.Frag) : Prop := obsW fa fn x lt K = valW fn tb w
def obsWG (n : Nat) (fa : List He.Fa) (fn : List He.DefD) (x : Str) (lt : List (Str × W)) (g : Addr → Option Obj) : AlW := obsW fa fn x lt (He.frG g (He.asD g n))
def hookW (n : Nat) (fa : List He.Fa) (fn : List He.DefD) (x : Str) (lt : List (Str × W)) (tb : List (Str × Str)) : PySem.W.Hook where
  α := AlW
  obs := fun s => obsWG n fa fn x lt s.heap.get?
  val := fun w => valW fn tb w
  says := fun w h => ∃ K : PySem.W.Frag, K.In h ∧ SaysW fa fn x lt tb w K
  of := fun _ _ e => ⟨_, He.frG_in, e⟩
  keeps := fun _ _ _ ⟨K, hK, c⟩ k => ⟨K, PySem.W.Frag.In.keeps hK k, c⟩
theorem obsWG_eq {n : Nat} {fa : List He.Fa} {fn : List He.DefD} {x : Str} {lt : List (Str × W)} {tb : List (Str × Str)} {g : Addr → Option Obj} {s : Shared} (h : ∀ a, g a = s.heap.get? a) : obsWG n fa fn x lt g = (hookW n fa fn x lt tb).obs s := by
  have e : g = s.heap.get? := funext h
  rw [e] <;> rfl
section
variable {fa : List He.Fa} {fn : List He.DefD} {x : Str} {lt : List (Str × W)} {tb : List (Str × Str)} {w : World} {K : PySem.W.Frag}
theorem SaysW.d (c : SaysW fa fn x lt tb w K) : He.SaysD fa fn K := congrArg (fun z : AlW => z.1) c
theorem SaysW.t (c : SaysW fa fn x lt tb w K) : dicV K (He.ga K x) = some (tvIn w.params tb) := congrArg (fun z : AlW => z.2.1) c
theorem SaysW.l (c : SaysW fa fn x lt tb w K) : litsAt K lt = true := congrArg (fun z : AlW => z.2.2) c
theorem SaysW.lit {T : Tb} (c : SaysW fa fn x lt tb w T.K) {y : Str} {v : W} {mg : Str → Option Value} (h : (y, v) ∈ lt) (hm : mg y = some (.ref (He.ga T.K y))) : ∃ u z, mg y = some u ∧ RelV z u ∧ ∀ F H, RW T F H v z := by
  obtain ⟨z, h1, h2⟩ := litB_ok (T := T) (List.all_eq_true.mp c.l _ h)
  exact ⟨_, z, hm, h1, h2⟩
end
def tbW (tb : List (Str × Str)) : List (Str × W) := tb.map fun q => (q.1, .str q.2)
theorem tlook_tb {z : Str} : ∀ {tb : List (Str × Str)}, tlook (tbW tb) z = (slook tb z).map W.str
  | [] => rfl
  | (n, v) :: r => by
    show (if z = n then some (W.str v) else tlook (tbW r) z) = _
    unfold slook
    by_cases h : z = n
    · rw [if_pos h, if_pos h]; rfl
    · rw [if_neg h, if_neg h]; exact tlook_tb
theorem kd_of {T : Tb} {w : World} {a : Addr} {tb : List (Str × Str)} (h : dicV T.K a = some (tvIn w.params tb)) : ∃ es n, KDict T.K w a es n ∧
    ∀ z, ∃ r, PySem.W.nsIn T.K a z = some r ∧ (∀ y, tlook (tbW tb) z = some y → ∃ u v, r = some u ∧ RelV v u ∧ ∀ F H, RW T F H y v) ∧ (tlook (tbW tb) z = none → r = none) := by
  obtain ⟨⟨es, n, hk⟩, hz⟩ := tab_ok h
  refine ⟨es, n, hk, fun z => ?_⟩
  obtain ⟨r, h1, h2, h3⟩ := hz z
  refine ⟨r, h1, fun y hy => ?_, fun hy => ?_⟩
  · rw [tlook_tb] at hy
    cases hs : slook tb z with
    | none => rw [hs] at hy; cases hy
    | some v =>
      rw [hs] at hy
      cases hy
      obtain ⟨t, ht⟩ := h2 v hs
      exact ⟨_, .str v, ht, ⟨t, rfl⟩, fun F H => RW.str_.mpr rfl⟩
  · rw [tlook_tb] at hy
    cases hs : slook tb z with
    | none => exact h3 hs
    | some v => rw [hs] at hy; cases hy
end WL
namespace WL
open PySem PySem.Spec PyProof.Rows L2
inductive Fb where
  | exk (x : Str)
  | kit (x y : Str) (b : Bool)
  | kitV (x : Str)
  | xfn (x f : Str)
  | icl (x : Str)
  | kitT (x : Str)
def kitTs (K : PySem.W.Frag) (C : Addr) : Bool := [Ty.non, .bl, .int, .str, .lst, .tup, .dct].all fun t => decide (PySem.W.kitOne K (.type t.name) (.ref C) = some false)
def Fb.ok (K : PySem.W.Frag) : Fb → Bool
  | .exk x => He.eqO (PySem.W.findIn K (.ref (He.ga K x)) "__getattribute__") (some (some (.builtin "BaseException.__getattribute__"))) && (He.eqO (PySem.W.findIn K (.ref (He.ga K x)) "__getattr__") (some none) &&
      (decide (PySem.W.subIn K (.ref (He.ga K x)) (.type "BaseException") = some true) && (PySem.W.hasDictIn K (He.ga K x) && (He.eqO (PySem.W.findIn K (.ref (He.ga K x)) "__class__") (some (some (.builtin "object.__class__"))) &&
      (He.eqO (PySem.W.specialIn K (.builtin "object.__class__") "__get__") (some (some (.builtin "getset_descriptor.__get__"))) && (decide (PySem.W.takesIn K (.builtin "object.__class__") = some true) && decide (PySem.W.mroIn K (He.ga K x) (.type "object") = some true)))))))
  | .kit x y b => decide (PySem.W.kitOne K (.ref (He.ga K x)) (.ref (He.ga K y)) = some b)
  | .kitV x => decide (PySem.W.kitOne K (.ref (He.ga K x)) (.type "ValueError") = some true)
  | .xfn x f => He.eqO (PySem.W.findIn K (.ref (He.ga K x)) f) (some none)
  | .icl x => He.eqO (PySem.W.findIn K (.ref (He.ga K x)) "__class__") (some (some (.builtin "object.__class__"))) && (He.eqO (PySem.W.specialIn K (.builtin "object.__class__") "__get__") (some (some (.builtin "getset_descriptor.__get__"))) &&
      (decide (PySem.W.takesIn K (.builtin "object.__class__") = some true) && decide (PySem.W.mroIn K (He.ga K x) (.type "object") = some true)))
  | .kitT x => kitTs K (He.ga K x)
section
variable {K : PySem.W.Frag}
theorem exk_ok {x : Str} (c : (Fb.exk x).ok K = true) : ExcC K (He.ga K x) := by
  obtain ⟨c1, c⟩ := He.ba c
  obtain ⟨c2, c⟩ := He.ba c
  obtain ⟨c3, c⟩ := He.ba c
  obtain ⟨c4, c⟩ := He.ba c
  obtain ⟨c5, c⟩ := He.ba c
  obtain ⟨c6, c⟩ := He.ba c
  obtain ⟨c7, c8⟩ := He.ba c
  exact ⟨He.eqO_ok c1, He.eqO_ok c2, of_decide_eq_true c3, c4, He.eqO_ok c5, He.eqO_ok c6, of_decide_eq_true c7, of_decide_eq_true c8⟩
theorem kit_ok {x y : Str} {b : Bool} (c : (Fb.kit x y b).ok K = true) : PySem.W.kitOne K (.ref (He.ga K x)) (.ref (He.ga K y)) = some b := of_decide_eq_true c
theorem kitV_ok {x : Str} (c : (Fb.kitV x).ok K = true) : PySem.W.kitOne K (.ref (He.ga K x)) (.type "ValueError") = some true := of_decide_eq_true c
theorem xfn_ok {x f : Str} (c : (Fb.xfn x f).ok K = true) : PySem.W.findIn K (.ref (He.ga K x)) f = some none := He.eqO_ok c
theorem icl_ok {T : Tb} {x : Str} {k : Nat} (hk : T.cls k = He.ga K x) (hK : T.K = K) (hc : Cls K (He.ga K x)) (c : (Fb.icl x).ok K = true) (X : Cx) (hX : X.K = T.K) : IcF T X k := by
  obtain ⟨c1, c⟩ := He.ba c
  obtain ⟨c2, c⟩ := He.ba c
  obtain ⟨c3, c4⟩ := He.ba c
  refine ⟨?_, ?_, ?_, ?_, ?_⟩
  · rw [hX, hk, hK]; exact hc
  · rw [hX, hk, hK]; exact He.eqO_ok c1
  · rw [hX, hK]; exact He.eqO_ok c2
  · rw [hX, hK]; exact of_decide_eq_true c3
  · rw [hX, hk, hK]; exact of_decide_eq_true c4
theorem kitT_ok {x : Str} (c : (Fb.kitT x).ok K = true) (t : Ty) : PySem.W.kitOne K (.type t.name) (.ref (He.ga K x)) = some false := by
  have := List.all_eq_true.mp (show kitTs K (He.ga K x) = true from c) t (by cases t <;> simp)
  exact of_decide_eq_true this
theorem xr_ok {T : Tb} {x : Str} {k : Nat} (hk : T.xcl k = He.ga K x) (hK : T.K = K) (c : (He.Fa.exc x).ok K = true) (X : Cx) (hX : X.K = T.K) : XrF T X k := by
  obtain ⟨h1, h2, h3, h4⟩ := He.exc_ok c
  refine ⟨?_, ?_, ?_, ?_⟩
  · rw [hX, hk, hK]; exact h1
  · rw [hX, hk, hK]; exact h2
  · rw [hX, hk, hK]; exact h3
  · rw [hX, hk, hK]; exact h4
end
def qualOf (p : He.Defn) : Str := match p.2 with
  | none => p.1 ++ ".<locals>." ++ "<lambda>"
  | some m => p.1 ++ "." ++ m ++ ".<locals>." ++ "<lambda>"
def tabsOf (K : PySem.W.Frag) (tf : List He.Defn) : List (Addr × Str) := tf.map fun p => ((He.cT K p).2, qualOf p)
def ndTabs (K : PySem.W.Frag) (tf : List He.Defn) : Bool := decide ((tf.map fun p => (He.cT K p).2).Nodup)
def moreB (fb : List Fb) (tf : List He.Defn) (g : Addr → Option Obj) (K : PySem.W.Frag) : Bool := (fb.all fun f => f.ok K) && (ndTabs K tf && He.tabsB g tf K)
abbrev AlV : Type := AlW × Bool
structure SaysV (fa : List He.Fa) (fn : List He.DefD) (x : Str) (lt : List (Str × W)) (tb : List (Str × Str)) (fb : List Fb) (tf : List He.Defn) (w : World) (h : Heap) (K : PySem.W.Frag) : Prop where
  w : SaysW fa fn x lt tb w K
  fb : ∀ f ∈ fb, f.ok K = true
  nd : (tf.map fun p => (He.cT K p).2).Nodup
  hd : ∀ p ∈ tf, PySem.W.CodeHd h (He.cT K p).1 (He.cT K p).2
  out : ∀ p ∈ tf, K.lookup (He.cT K p).2 = none
  empty : ∀ p ∈ tf, h.get? (He.cT K p).2 = some { cls := .none, data := .fields #[] }
def obsVG (n : Nat) (fa : List He.Fa) (fn : List He.DefD) (x : Str) (lt : List (Str × W)) (fb : List Fb) (tf : List He.Defn) (g : Addr → Option Obj) : AlV := (obsW fa fn x lt (He.frT g (He.asD g n)), moreB fb tf g (He.frT g (He.asD g n)))
theorem saysV_of {n : Nat} {fa : List He.Fa} {fn : List He.DefD} {x : Str} {lt : List (Str × W)} {tb : List (Str × Str)} {fb : List Fb} {tf : List He.Defn} {w : World} {h : Heap} (e : obsVG n fa fn x lt fb tf h.get? = (valW fn tb w, true)) :
    SaysV fa fn x lt tb fb tf w h (He.frT h.get? (He.asD h.get? n)) := by
  have e1 : obsW fa fn x lt (He.frT h.get? (He.asD h.get? n)) = valW fn tb w := congrArg (fun z : AlV => z.1) e
  have e2 : moreB fb tf h.get? (He.frT h.get? (He.asD h.get? n)) = true := congrArg (fun z : AlV => z.2) e
  obtain ⟨h1, h2⟩ := He.ba e2
  obtain ⟨h3, h4⟩ := He.ba h2
  have key : ∀ p ∈ tf, PySem.W.codeHdIn (He.frT h.get? (He.asD h.get? n)) (He.cT (He.frT h.get? (He.asD h.get? n)) p).1 (He.cT (He.frT h.get? (He.asD h.get? n)) p).2 = true ∧
      ∃ o, h.get? (He.cT (He.frT h.get? (He.asD h.get? n)) p).2 = some o ∧ He.emptyTab o = true := fun p hp => by
    obtain ⟨k1, k2⟩ := He.ba (List.all_eq_true.mp h4 p hp)
    refine ⟨k1, ?_⟩
    split at k2
    · rename_i o q
      exact ⟨o, q, k2⟩
    · cases k2
  refine ⟨e1, fun f hf => List.all_eq_true.mp h1 f hf, of_decide_eq_true h3, fun p hp => ?_, fun p hp => ?_, fun p hp => ?_⟩
  · exact PySem.W.codeHd_of_K He.frT_in (key p hp).1
  · obtain ⟨_, o, q, z⟩ := key p hp
    exact He.frT_none q z
  · obtain ⟨_, o, q, z⟩ := key p hp
    rw [q, He.emptyTab_eq z]
def hookV (n : Nat) (fa : List He.Fa) (fn : List He.DefD) (x : Str) (lt : List (Str × W)) (tb : List (Str × Str)) (fb : List Fb) (tf : List He.Defn) : PySem.W.Hook where
  α := AlV
  obs := fun s => obsVG n fa fn x lt fb tf s.heap.get?
  val := fun w => (valW fn tb w, true)
  says := fun w h => ∃ K : PySem.W.Frag, K.In h ∧ SaysV fa fn x lt tb fb tf w h K
  of := fun _ _ e => ⟨_, He.frT_in, saysV_of e⟩
  keeps := fun _ _ _ ⟨K, hK, c⟩ k => ⟨K, PySem.W.Frag.In.keeps hK k, ⟨c.w, c.fb, c.nd, fun p hp => (c.hd p hp).keeps k, c.out, fun p hp => k _ _ (c.empty p hp)⟩⟩
theorem obsVG_eq {n : Nat} {fa : List He.Fa} {fn : List He.DefD} {x : Str} {lt : List (Str × W)} {tb : List (Str × Str)} {fb : List Fb} {tf : List He.Defn} {g : Addr → Option Obj} {s : Shared} (h : ∀ a, g a = s.heap.get? a) : obsVG n fa fn x lt fb tf g = (hookV n fa fn x lt tb fb tf).obs s := by
  have e : g = s.heap.get? := funext h
  rw [e] <;> rfl
theorem SaysV.tab {fa : List He.Fa} {fn : List He.DefD} {x : Str} {lt : List (Str × W)} {tb : List (Str × Str)} {fb : List Fb} {tf : List He.Defn} {w : World} {h : Heap} {K : PySem.W.Frag} (c : SaysV fa fn x lt tb fb tf w h K) {p : He.Defn} (hp : p ∈ tf) :
    ((He.cT K p).2, qualOf p) ∈ tabsOf K tf ∧ ∀ q ∈ tabsOf K tf, q.1 = (He.cT K p).2 → q.2 = qualOf p := by
  refine ⟨List.mem_map.mpr ⟨p, hp, rfl⟩, fun q hq e => ?_⟩
  obtain ⟨r, hr, rfl⟩ := List.mem_map.mp hq
  have nd := c.nd
  have : r = p := by
    have inj : ∀ (l : List He.Defn), (l.map fun p => (He.cT K p).2).Nodup → ∀ a ∈ l, ∀ b ∈ l, (He.cT K a).2 = (He.cT K b).2 → a = b := by
      intro l
      induction l with
      | nil => intro _ a ha; cases ha
      | cons z zs ih =>
        intro nd a ha b hb e
        rw [List.map_cons, List.nodup_cons] at nd
        rcases List.mem_cons.mp ha with rfl | ha'
        · rcases List.mem_cons.mp hb with rfl | hb'
          · rfl
          · exact absurd (List.mem_map.mpr ⟨b, hb', e.symm⟩) nd.1
        · rcases List.mem_cons.mp hb with rfl | hb'
          · exact absurd (show (He.cT K b).2 ∈ zs.map fun p => (He.cT K p).2 from List.mem_map.mpr ⟨a, ha', e⟩) nd.1
          · exact ih nd.2 a ha' b hb' e
    exact inj tf nd r hr p hp e
  rw [this]
end WL
namespace WL
open PySem PySem.Spec PyProof.Rows L2
def fnA : Stmt → Arguments
  | .FunctionDef (args := a) .. => a
  | _ => ⟨[], [], none, [], [], none, []⟩
def fnB : Stmt → List Stmt
  | .FunctionDef (body := b) .. => b
  | _ => []
def fnS : Stmt → Scope
  | .FunctionDef (scope := s) .. => s
  | _ => ⟨.function, [], false, false, []⟩
theorem lookup_in {α β : Type} [BEq α] [LawfulBEq α] {f : α} {x : β} : ∀ {l : List (α × β)}, l.lookup f = some x → (f, x) ∈ l
  | [], h => by cases h
  | (g, y) :: l, h => by
    rw [List.lookup_cons] at h
    cases e : f == g with
    | true =>
      rw [e] at h
      cases h
      rw [eq_of_beq e]
      exact List.mem_cons_self ..
    | false =>
      rw [e] at h
      exact List.mem_cons_of_mem _ (lookup_in h)
theorem all_of {β : Type} {l : List (Nat × β)} {P : Nat → β → Prop} (h : ∀ q ∈ l, P q.1 q.2) : ∀ f x, l.lookup f = some x → P f x := fun _ _ e => h _ (lookup_in e)
theorem all_of2 {β : Type} {l : List ((Nat × Nat) × β)} {P : Nat → Nat → β → Prop} (h : ∀ q ∈ l, P q.1.1 q.1.2 q.2) : ∀ c m x, l.lookup (c, m) = some x → P c m x := fun _ _ _ e => h _ (lookup_in e)
theorem _root_.He.SaysD.all {fa : List He.Fa} {fn : List He.DefD} {K : PySem.W.Frag} (c : He.SaysD fa fn K) {f : He.Fa} (h : f ∈ fa) : f.ok K = true := by
  have c1 := (He.ba (show ((fa.all fun f => f.ok K) && fn.all fun d => d.ok K) = true from congrArg (fun z : He.AlD => z.1) c)).1
  exact List.all_eq_true.mp c1 f h
theorem gl_int {T : Tb} {mg : Str → Option Value} {x : Str} {i : Int} (h : ∃ t, mg x = some (.int i t)) : ∃ u v, mg x = some u ∧ RelV v u ∧ ∀ F H, RW T F H (.int i) v := by
  obtain ⟨t, h⟩ := h
  exact ⟨_, .int i, h, ⟨t, rfl⟩, fun _ _ => RW.int_.mpr rfl⟩
theorem gl_str {T : Tb} {mg : Str → Option Value} {x z : Str} (h : ∃ t, mg x = some (.str z t)) : ∃ u v, mg x = some u ∧ RelV v u ∧ ∀ F H, RW T F H (.str z) v := by
  obtain ⟨t, h⟩ := h
  exact ⟨_, .str z, h, ⟨t, rfl⟩, fun _ _ => RW.str_.mpr rfl⟩
theorem kd_says {T : Tb} {w : World} {mg : Str → Option Value} {x : Str} {a : Addr} {tb : List (Str × W)} (h : mg x = some (.ref a)) (k : ∃ es n, KDict T.K w a es n ∧
    ∀ z, ∃ r, PySem.W.nsIn T.K a z = some r ∧ (∀ y, tlook tb z = some y → ∃ u v, r = some u ∧ RelV v u ∧ ∀ F H, RW T F H y v) ∧ (tlook tb z = none → r = none)) :
    ∃ d es n, mg x = some (.ref d) ∧ KDict T.K w d es n ∧
    ∀ z, ∃ r, PySem.W.nsIn T.K d z = some r ∧ (∀ y, tlook tb z = some y → ∃ u v, r = some u ∧ RelV v u ∧ ∀ F H, RW T F H y v) ∧ (tlook tb z = none → r = none) := by
  obtain ⟨es, n, h1, h2⟩ := k
  exact ⟨a, es, n, h, h1, h2⟩
theorem ints_rws {T : Tb} {F : Addr → Prop} {H : Hp} : ∀ ns : List Int, RWs T F H (ns.map W.int) (ns.map V.int)
  | [] => .nil
  | _ :: ns => .cons (RW.int_.mpr rfl) (ints_rws ns)
theorem law_sp {T : Tb} {H : Hp} {a : Addr} {ns : List Int} {p : Wp} (h : SqL T.K H a (ns.map V.int)) (tk : TbOk T H) (hp : p [.scr (ns.map W.int)] (fun _ => none) (fun w _ => w = .bl true) fun _ _ => False) :
    cP T p [.ref a] H (fun v _ => v = .bl true) fun _ _ _ => False := by
  refine ⟨fun b => b = a ∧ H a = some (.lst (ns.map V.int)), [.scr (ns.map W.int)], fun _ => none, _, _, .cons (RW.scr_.mpr ⟨a, _, rfl, ?_, ints_rws ns⟩) .nil, ⟨fun _ _ q => (nomatch q), fun b hb => ⟨.lst (ns.map V.int), by rw [hb.1]; exact hb.2, trivial⟩, tk⟩, hp, fun w M' v H' F' e r S q => ?_, fun _ _ _ _ _ _ _ _ _ q => q.elim⟩
  · rcases h with (h | ⟨o, h⟩) | h
    · exact .inl ⟨⟨rfl, h⟩, h⟩
    · exact .inr (.inl ⟨o, h⟩)
    · exact .inr (.inr h)
  · subst q
    exact RW.bl_.mp r
def CXa : CXT := fun o H s E e s' => ∃ P w, L2.CX P w o H s E e s'
theorem cx_no {H : Hp} {s : Shared} {e : Value} {s' : Shared} (h : ∃ P w, L2.CX P w [] H s (fun _ _ _ => False) e s') : False := by
  obtain ⟨_, _, _, _, _, _, _, _, _, _, _, _, _, _, q⟩ := h
  exact q
theorem fnok_cx {P : Program} {w : World} {K : PySem.W.Frag} {mg : Str → Option Value} {base : Heap} {k : Nat} {f : Addr} {fd : FuncData} {ps : List Str} {sp : Sp} (F : FnOk P w K mg base (L2.CX P w) k f fd ps sp) : FnOk P w K mg base (fun o H s E e s' => ∃ P w, L2.CX P w o H s E e s') k f fd ps sp := by
  refine ⟨F.len, fun A outer s H args us vs Q E hr he hb hv hs => ?_⟩
  refine PySem.codeAny_mono (F.run A outer s H args us vs Q E hr he hb hv hs) fun r s' h => ?_
  cases r with
  | ok f => cases f <;> exact h
  | error e => exact ⟨P, w, h⟩
theorem tbOk_start {T : Tb} {K : PySem.W.Frag} {tf : List He.Defn} {H : Hp} (ht : T.tabs = tabsOf K tf) (hx : T.xd = none) (h : ∀ p ∈ tf.map (He.cT K), H p.2 = some (.tbl #[])) : TbOk T H := by
  refine ⟨fun p hp => ?_, fun d us z => by rw [hx] at z; cases z⟩
  rw [ht] at hp
  obtain ⟨q, hq, rfl⟩ := List.mem_map.mp hp
  exact LamX.TabS.nil (h _ (List.mem_map_of_mem hq))
theorem lm_no {T : Tb} {mg : Str → Option Value} {base : Heap} {d : Fd} {qual : Str} {a : Addr} (h : d.lam = false) : LmOk T mg base d qual a := fun z => by rw [h] at z; cases z
theorem lm_of {T : Tb} {fa : List He.Fa} {fn : List He.DefD} {x : Str} {lt : List (Str × W)} {tb : List (Str × Str)} {fb : List Fb} {tf : List He.Defn} {w : World} {h : Heap} (c : SaysV fa fn x lt tb fb tf w h T.K) (ht : T.tabs = tabsOf T.K tf) {p : He.Defn} (hp : p ∈ tf)
    {mg : Str → Option Value} {base : Heap} (TB : ∀ p ∈ tf.map (He.cT T.K), LamX.TabB base mg p.1 p.2) {d : Fd} {y qual : Str} {args : Arguments} {body : List Stmt} {scope : Scope} {fd : FuncData} (F : FunD T.K y qual args body scope [] [] (He.fAd T.K p) fd) (hq : qual ++ ".<locals>." ++ "<lambda>" = qualOf p) :
    LmOk T mg base d qual (He.fAd T.K p) := by
  intro _ oc od fd' osl lk
  obtain ⟨oc2, od2, dV, kV, doc, pm, an, cdv, ct, osl2, hfd, lk2, hcd, _, _⟩ := F.ex
  rw [lk2] at lk
  cases lk
  subst hfd
  obtain ⟨cc, rfl⟩ := He.codeIn_ref hcd
  have e : He.codeOf T.K p = cc := He.codeOf_eq lk2 rfl
  have hc : (He.cT T.K p).1 = cc := e
  obtain ⟨t1, t2⟩ := c.tab hp
  have B := TB _ (List.mem_map_of_mem hp)
  rw [hc] at B
  rw [hq, ht]
  exact ⟨cc, _, rfl, B, t1, t2⟩
structure Exs where
  /-- classes of exceptions; those that may be held -/
  nx : List (Nat × Str)
  hl : List (Nat × Str)
  /-- (c, k): what is caught -/
  sb : List ((Nat × Nat) × (Str × Str × Bool))
  xf : List ((Nat × Str) × Str)
  /-- (c, k): instances -/
  ic : List ((Nat × Nat) × (Str × Str × Bool))
  /-- classes that are asked for -/
  ia : List (Nat × Str)
namespace Exs
variable (e : Exs)
def xname (c : Nat) : Str := (e.nx.lookup c).getD "HallError"
def ok (cn : Nat → Str) : Bool := e.nx.all (fun q => decide (e.xname q.1 = q.2)) && e.hl.all (fun q => decide (e.xname q.1 = q.2)) && e.sb.all (fun q => decide (e.xname q.1.2 = q.2.1) && decide (e.xname q.1.1 = q.2.2.1)) &&
  e.xf.all (fun q => decide (e.xname q.1.1 = q.2)) && e.ic.all (fun q => decide (cn q.1.2 = q.2.1) && decide (cn q.1.1 = q.2.2.1)) && e.ia.all fun q => decide (cn q.1 = q.2)
def fb : List Fb := e.hl.flatMap (fun k => .exk k.2 :: .kitV k.2 :: e.hl.map fun c => .kit k.2 c.2 (decide (k.2 = c.2))) ++ (e.xf.flatMap (fun q => [.exk q.2, .xfn q.2 q.1.2]) ++ (e.ic.flatMap (fun q => [.icl q.2.1, .kit q.2.1 q.2.2.1 q.2.2.2]) ++ e.ia.map fun q => .kitT q.2))
def fa : List He.Fa := e.nx.map (fun q => .glo q.2) ++ e.sb.map fun q => .exm q.2.1 q.2.2.1 q.2.2.2
def isx : Option Nat → Nat → Option Bool := isxL e.hl
def sub (c k : Nat) : Option Bool := (e.sb.lookup (c, k)).map fun q => q.2.2
def xfB (c : Nat) (f : Str) : Bool := (e.xf.lookup (c, f)).isSome
def isc (c k : Nat) : Option Bool := (e.ic.lookup (c, k)).map fun q => q.2.2
variable {e} {cn : Nat → Str} {T : Tb}
theorem says_xg (o : e.ok cn = true) (hx : ∀ c, T.xcl c = He.ga T.K (e.xname c)) {h : Heap} {mg : Str → Option Value} (X : T.K.In h) (G : h.Ns mainGlobals mg) (hf : ∀ f ∈ e.fa, f.ok T.K = true) : ∀ c x, e.nx.lookup c = some x → mg x = some (.ref (T.xcl c)) := fun c x h => by
  have m := lookup_in h
  have : T.xcl c = He.ga T.K x := by rw [hx]; unfold xname; rw [h]; rfl
  rw [this]
  exact He.glo_ok X G (hf _ (List.mem_append_left _ (List.mem_map.mpr ⟨_, m, rfl⟩)))
theorem says_isx (o : e.ok cn = true) (hx : ∀ c, T.xcl c = He.ga T.K (e.xname c)) (hf : ∀ f ∈ e.fb, f.ok T.K = true) : ∀ c k b, e.isx c k = some b → ExcC T.K (T.xcl k) ∧ PySem.W.kitOne T.K (.ref (T.xcl k)) (tgtV T c) = some b := fun c k b h => by
  unfold ok at o
  simp only [Bool.and_eq_true, List.all_eq_true, decide_eq_true_eq] at o
  unfold isx isxL at h
  cases hk : e.hl.lookup k with
  | none => rw [hk] at h; cases h
  | some xk =>
    rw [hk, Option.bind_some] at h
    have mk := lookup_in hk
    have ek : T.xcl k = He.ga T.K xk := by rw [hx, o.1.1.1.1.2 _ mk]
    have inf : ∀ f ∈ (Fb.exk xk :: .kitV xk :: e.hl.map fun c => Fb.kit xk c.2 (decide (xk = c.2)) : List Fb), f.ok T.K = true := fun f hm => hf f (List.mem_append_left _ (List.mem_flatMap.mpr ⟨_, mk, hm⟩))
    rw [ek]
    refine ⟨exk_ok (inf _ (by simp)), ?_⟩
    cases c with
    | none =>
      cases h
      exact kitV_ok (inf _ (by simp))
    | some c =>
      simp only at h
      cases hc : e.hl.lookup c with
      | none => rw [hc] at h; cases h
      | some xc =>
        rw [hc] at h
        cases h
        have mc := lookup_in hc
        have ec : T.xcl c = He.ga T.K xc := by rw [hx, o.1.1.1.1.2 _ mc]
        show PySem.W.kitOne T.K (.ref (He.ga T.K xk)) (.ref (T.xcl c)) = _
        rw [ec]
        exact kit_ok (inf _ (List.mem_cons_of_mem _ (List.mem_cons_of_mem _ (List.mem_map.mpr ⟨_, mc, rfl⟩))))
theorem says_sub (o : e.ok cn = true) (hx : ∀ c, T.xcl c = He.ga T.K (e.xname c)) (hf : ∀ f ∈ e.fa, f.ok T.K = true) : ∀ c k b, e.sub c k = some b → PySem.W.exmOne T.K (.ref (T.xcl k)) (.ref (T.xcl c)) = some b := fun c k b h => by
  unfold ok at o
  simp only [Bool.and_eq_true, List.all_eq_true, decide_eq_true_eq] at o
  unfold sub at h
  cases hq : e.sb.lookup (c, k) with
  | none => rw [hq] at h; cases h
  | some q =>
    rw [hq] at h
    cases h
    have m := lookup_in hq
    have z := o.1.1.1.2 _ m
    rw [hx, hx, z.1, z.2]
    exact He.exm_ok (hf _ (List.mem_append_right _ (List.mem_map.mpr ⟨_, m, rfl⟩)))
theorem says_xf (o : e.ok cn = true) (hx : ∀ c, T.xcl c = He.ga T.K (e.xname c)) (hf : ∀ f ∈ e.fb, f.ok T.K = true) : ∀ c f, e.xfB c f = true → ExcC T.K (T.xcl c) ∧ PySem.W.findIn T.K (.ref (T.xcl c)) f = some none := fun c f h => by
  unfold ok at o
  simp only [Bool.and_eq_true, List.all_eq_true, decide_eq_true_eq] at o
  unfold xfB at h
  cases hq : e.xf.lookup (c, f) with
  | none => rw [hq] at h; cases h
  | some q =>
    have m := lookup_in hq
    rw [hx, o.1.1.2 _ m]
    have inf : ∀ z ∈ ([Fb.exk q, .xfn q f] : List Fb), z.ok T.K = true := fun z hz => hf z (List.mem_append_right _ (List.mem_append_left _ (List.mem_flatMap.mpr ⟨_, m, hz⟩)))
    exact ⟨exk_ok (inf _ (by simp)), xfn_ok (inf _ (by simp))⟩
theorem says_isc (o : e.ok cn = true) (hc : ∀ c, T.cls c = He.ga T.K (cn c)) (hcl : ∀ c, Cls T.K (T.cls c)) (hf : ∀ f ∈ e.fb, f.ok T.K = true) : ∀ c k b, e.isc c k = some b → (∀ X : Cx, X.K = T.K → IcF T X k) ∧ PySem.W.kitOne T.K (.ref (T.cls k)) (.ref (T.cls c)) = some b := fun c k b h => by
  unfold ok at o
  simp only [Bool.and_eq_true, List.all_eq_true, decide_eq_true_eq] at o
  unfold isc at h
  cases hq : e.ic.lookup (c, k) with
  | none => rw [hq] at h; cases h
  | some q =>
    rw [hq] at h
    cases h
    have m := lookup_in hq
    have z := o.1.2 _ m
    have inf : ∀ y ∈ ([.icl q.1, .kit q.1 q.2.1 q.2.2] : List Fb), y.ok T.K = true := fun y hy => hf y (List.mem_append_right _ (List.mem_append_right _ (List.mem_append_left _ (List.mem_flatMap.mpr ⟨_, m, hy⟩))))
    have ek : T.cls k = He.ga T.K q.1 := by rw [hc, z.1]
    have ec : T.cls c = He.ga T.K q.2.1 := by rw [hc, z.2]
    refine ⟨fun X hX => icl_ok ek rfl (by rw [← ek]; exact hcl k) (inf _ (by simp)) X hX, ?_⟩
    rw [ek, ec]
    exact kit_ok (inf _ (by simp))
theorem says_ic (o : e.ok cn = true) (hc : ∀ c, T.cls c = He.ga T.K (cn c)) (hf : ∀ f ∈ e.fb, f.ok T.K = true) : ∀ c, (e.ia.lookup c).isSome = true → ∀ t : Ty, PySem.W.kitOne T.K (.type t.name) (.ref (T.cls c)) = some false := fun c h t => by
  unfold ok at o
  simp only [Bool.and_eq_true, List.all_eq_true, decide_eq_true_eq] at o
  cases hq : e.ia.lookup c with
  | none => rw [hq] at h; cases h
  | some q =>
    have m := lookup_in hq
    rw [hc, o.2 _ m]
    exact kitT_ok (hf _ (List.mem_append_right _ (List.mem_append_right _ (List.mem_append_right _ (List.mem_map.mpr ⟨_, m, rfl⟩))))) t
end Exs
end WL
namespace WL
open PySem L2
local macro_rules | `(tactic| simp only [evs_, $xs,*]) => `(tactic| simp only [dX, dXs, dXo, dXi, dSc, d2, d1, dN, dVar, dC, dTup, dLst, dTru, dB, dChain, dIte, dNotV, dNotT, dJoinV, dJoinT, dNil, dCons, dCall, dBM, dIsi, dIsi2, dAttr, dMeth, dNew, dDget, dDin, dDnew, dKidx, dKin, dKget, dDisp, dFrz, dRev, dLrg, dSset, dSlice, dNoPart, dPart, dDfz, dRaise, dTry, dCatch, dKind, isx_eq, xfl_eq, dIsc, Gam.low, dAsg, dExpr, dRet, dIf, dFld, dSet, dDput, dNever, dFor, dNext, binP, cmpP, iSeqD, iRg1, iRg2, iZip, iEnumD, Tg.asg, setAll, List.set, List.map_cons, List.map_nil, subW, modW, fdivW, powW, ltW, leW, gtW, geW, newL, finD, frzO, tupW, listW, oneW, twoW, BI.w, ints_eq, add_int, add_str, add_tup, add_lst, mul_int, mul_lst, mul_tup, idx_tup, idx_lst, idx_scr, idx_str, len_tup, len_lst, len_scr, len_str, sl_tup, sl_lst, neg_int, str_int, str_str, int_int, int_bl, is_non, is_int, is_str, is_tup, is_lst, is_bl, is_bb, dss_cons, eq_int, eq_str, eq_bl, ne_int, ne_str, ne_bl, eq_nilL, ty_non, ty_bl, ty_int, ty_str, ty_tup, ty_lst, ty_scr, ty_dk, Ty.sub, tr_bl, tr_non, tr_int, tr_str, sv_lst, sv_tup, sv_scr, lv_lst, at0, at1, at2, cut1, len0, ss_nil, for_nil, for_cons, pairs_cons, pairs_nil, pairs_nil', walk_lst, walk_scr, walk_tup, walk_str, walk_ref, List.getElem?_cons_zero, List.getElem?_cons_succ, List.length_cons, List.length_nil, List.append_nil, List.cons_append, List.nil_append, Option.some.injEq, W.int.injEq, W.str.injEq, W.bl.injEq, W.tup.injEq, W.lst.injEq, W.ref.injEq, List.cons.injEq, Option.map_some, exists_and_left, exists_and_right, exists_eq_left, exists_eq_left', exists_eq, exists_eq', exists_eq_right, exists_eq_right', and_true, true_and, and_assoc, reduceIte, reduceCtorEq, decide_true, decide_false, decide_eq_true_eq, decide_eq_false_iff_not, Bool.not_eq_true', Bool.not_eq_false', Bool.true_eq_false, Bool.false_eq_true, if_true, if_false, Bool.not_true, Bool.not_false, ite_true, ite_false, Int.cast_ofNat_Int, Int.reduceAdd, Int.reduceSub, Int.reduceEq, Int.reduceLT, Int.reduceLE, Int.natCast_add, Nat.reduceEqDiff, Nat.reduceAdd, Nat.add_zero, Nat.zero_add, Nat.succ_ne_zero, not_true_eq_false, not_false_eq_true, Option.getD_some, Option.getD_none, Option.isSome_some, Option.isSome_none, $xs,*])
def c_law_v13_17 : Ss := .cons (.expr (.call 64 (.cons (.var 6) (.cons (.var 7) .nil)))) .nil
def c_law_v13_18 : Ss := .cons (.ret (.lit (.bl false))) .nil
def c_law_v13_19 : Ss := .cons (.ret (.lit (.bl false))) .nil
def c_law_v13_20 : Ss := .cons (.ret (.lit (.bl false))) .nil
def c_law_v13_21 : Ss := .cons (.ret (.lit (.bl false))) .nil
def c_law_v13_16 : Ss := .cons (.ite (.cmp .NotEq (.kindL (.call 29 (.cons (.var 3) (.cons (.var 12) (.cons (.var 11) .nil))))) (.idx (.lst false (.cons (.lit (.str "BadRoom")) (.cons (.lit (.str "TooMany")) .nil))) (.bin .FloorDiv false (.blt false .len (.cons (.var 3) .nil)) (.lit (.int 6))))) c_law_v13_21 .nil) .nil
def c_law_v13_15 : Ss := .cons (.asg (.name 12) (.idx (.lst false (.cons (.lit (.int 0)) (.cons (.lit (.int 65)) (.cons (.neg (.lit (.int 1))) .nil)))) (.call 45 (.cons (.var 1) (.cons (.lit (.int 3)) .nil))))) c_law_v13_16
def c_law_v13_14 : Ss := .cons (.ite (.bool true (.cons (.cmp .Lt (.blt false .len (.cons (.var 3) .nil)) (.lit (.int 6))) (.cons (.cmp .NotEq (.kindL (.call 29 (.cons (.var 3) (.cons (.lit (.int 64)) (.cons (.var 11) .nil))))) (.lit (.str "BadTrace"))) .nil))) c_law_v13_20 .nil) c_law_v13_15
def c_law_v13_13 : Ss := .cons (.asg (.name 11) (.slice false (.var 10) (.some (.blt false .max2 (.cons (.lit (.int 0)) (.cons (.bin .Sub false (.var 9) (.lit (.int 9))) .nil)))) (.some (.bin .Add false (.var 9) (.lit (.int 9)))))) c_law_v13_14
def c_law_v13_12 : Ss := .cons (.ite (.cmp .NotEq (.kindL (.call 26 (.cons (.var 3) (.cons (.var 4) (.cons (.var 10) .nil))))) (.lit (.str "BadTrace"))) c_law_v13_19 .nil) c_law_v13_13
def c_law_v13_11 : Ss := .cons (.asg (.name 10) (.idx (.lst false (.cons (.bin .Add false (.bin .Add false (.slice false (.var 5) .none (.some (.var 9))) (.lst false (.cons (.bin .Add false (.blt false .len (.cons (.var 3) .nil)) (.call 45 (.cons (.var 1) (.cons (.lit (.int 9)) .nil)))) .nil))) (.slice false (.var 5) (.some (.var 9)) .none)) (.cons (.bin .Add false (.slice false (.var 5) .none (.some (.var 9))) (.lst false (.cons (.neg (.lit (.int 1))) .nil))) (.cons (.lst false .nil) .nil)))) (.call 45 (.cons (.var 1) (.cons (.lit (.int 3)) .nil))))) c_law_v13_12
def c_law_v13_10 : Ss := .cons (.asg (.name 9) (.call 45 (.cons (.var 1) (.cons (.blt false .len (.cons (.var 5) .nil)) .nil)))) c_law_v13_11
def c_law_v13_9 : Ss := .cons (.ite (.bool false (.cons (.not (.call 46 (.cons (.call 26 (.cons (.var 3) (.cons (.var 4) (.cons (.var 8) .nil)))) (.cons (.dget (.var 6) (.lit (.str "many"))) .nil)))) (.cons (.cmp .NotEq (.var 8) (.var 5)) .nil))) c_law_v13_18 .nil) c_law_v13_10
def c_law_v13_8 : Ss := .cons (.asg (.name 8) (.blt false .list (.cons (.var 5) .nil))) c_law_v13_9
def c_law_v13_7 : Ss := .cons (.for_ (.name 7) (.seq (.var 5)) c_law_v13_17) c_law_v13_8
def c_law_v13_6 : Ss := .cons (.asg (.name 6) (.call 68 (.cons (.var 3) (.cons (.var 4) (.cons (.idx (.call 67 (.cons (.var 3) (.cons (.var 4) .nil))) (.lit (.int 1))) .nil))))) c_law_v13_7
def c_law_v13_5 : Ss := .cons (.asg (.name 5) (.lc false (.call 45 (.cons (.var 1) (.cons (.blt false .len (.cons (.var 3) .nil)) .nil))) (.name 9) (.rg1 (.bin .Add false (.lit (.int 1)) (.call 45 (.cons (.var 1) (.cons (.lit (.int 60)) .nil))))) .none [("_law_k", 9)])) c_law_v13_6
def c_law_v13_4 : Ss := .cons (.asg (.name 4) (.call 66 (.cons (.var 1) (.cons (.var 3) .nil)))) c_law_v13_5
def c_law_v13_3 : Ss := .cons (.asg (.name 3) (.call 52 (.cons (.var 1) (.cons (.lit (.int 8)) .nil)))) c_law_v13_4
def c_law_v13_2 : Ss := .cons (.ret (.lit (.bl true))) .nil
def c_law_v13_1 : Ss := .cons (.for_ (.name 2) (.rg1 (.lit (.int 5))) c_law_v13_3) c_law_v13_2
def c_law_v13 : Ss := .cons (.asg (.name 1) (.call 44 (.cons (.var 0) (.cons (.lit (.int 47)) .nil)))) c_law_v13_1
def n_law_v13 : List Str := ["_law_script", "_law_h", "_law_turn", "_law_program_here", "_law_tree_here", "_law_trace", "_law_hall_here", "_law_function", "_law_handed", "_law_k", "_law_bad", "_law_some", "_law_room"]
theorem wI_ints {l : List Nat} : wInts l = (l.map fun n : Nat => (n : Int)).map W.int := by unfold wInts; rw [List.map_map]; rfl
theorem cut_nat {l : List W} {a b : Nat} : cutW l (some (a : Int)) (some (b : Int)) = (l.take b).drop a := by
  unfold cutW
  rw [HT.sIx_nat, HT.sIx_nat]
  refine List.ext_getElem? fun i => ?_
  rw [List.getElem?_take, List.getElem?_drop, List.getElem?_drop, List.getElem?_take]
  by_cases h : a + i < l.length
  · by_cases h2 : a + i < b
    · rw [if_pos (by omega), if_pos h2]
      congr 1
      omega
    · rw [if_neg (by omega), if_neg h2]
  · have e1 : l[a + i]? = none := List.getElem?_eq_none (by omega)
    rw [e1]
    have e2 : ∀ (P : Prop) [Decidable P] (j : Nat), l.length ≤ j → (if P then l[j]? else none) = none := fun P _ j hj => by
      rw [List.getElem?_eq_none hj]
      split <;> rfl
    by_cases h3 : a ≤ l.length
    · rw [e2 _ _ (by omega)]
      split <;> rfl
    · rw [if_neg (by omega)]
      split <;> rfl
theorem cut_toN {l : List W} {b : Nat} : cutW l none (some (b : Int)) = l.take b := by
  unfold cutW
  rw [HT.sIx_nat, HT.sIx_none, List.drop_zero, Nat.sub_zero]
  by_cases h : b ≤ l.length
  · rw [Nat.min_eq_left h]
  · rw [Nat.min_eq_right (by omega), List.take_length, List.take_of_length_le (by omega)]
theorem map_back {tr : List Nat} : (tr.map fun n : Nat => (n : Int)).map Int.toNat = tr := by
  rw [List.map_map]
  exact List.map_id'' (fun n => by show ((n : Int)).toNat = n; omega) tr
def sp_law_v13 : Nat → Wp := fun k ws M Q _ => ∃ ns : List Int, ws = [.scr (ns.map W.int)] ∧ 20 ≤ k ∧ ∀ M', Q (.bl true) M'
theorem keep_law_v13 {Γ : Gam} {k : Nat} (f_l_mix : Γ.fn 44 = dn sp_l_mix k) (f_l_program : Γ.fn 52 = dn sp_l_program k) (f_l_tree : Γ.fn 66 = dn sp_l_tree k) (f_l_next : Γ.fn 45 = dn sp_l_next k) (f_l_hall : Γ.fn 68 = dn sp_l_hall k) (f_l_laid : Γ.fn 67 = dn sp_l_laid k) (f_l_look : Γ.fn 64 = dn sp_l_look k) (f_l_alike : Γ.fn 46 = dn sp_l_alike k) (f_cost : Γ.fn 26 = dn sp_cost k) (two_ : 2 ≤ k → Γ.two = true) (kd_ : Γ.kind = kindP) (fL_cost : Γ.fnL 26 = dn sp_cost (k - 2)) (fL_cheapest : Γ.fnL 29 = dn sp_cheapest (k - 2)) : KeepC Γ n_law_v13 1 c_law_v13 (sp_law_v13 k) := by
  rintro ws M Q Ex ⟨ns, rfl, hk, q⟩
  refine ⟨rfl, ?_⟩
  show dSs Γ _ _ [some (.scr (ns.map W.int)), none, none, none, none, none, none, none, none, none, none, none, none] M
  obtain ⟨k, rfl⟩ : ∃ j, k = j + 20 := ⟨k - 20, by omega⟩
  simp only [evs_, c_law_v13, f_l_mix, f_l_program, f_l_tree, f_l_next, f_l_hall, f_l_laid, f_l_look, f_l_alike, f_cost, kd_, fL_cost, fL_cheapest, dn]
  refine ⟨ns, 47, rfl, by decide, fun a s M1 ha hs0 hs1 fr1 => ?_⟩
  simp only [evs_, c_law_v13_1]
  refine ⟨by decide, by decide, for_range (n := 5) (fun _ σ M' => (∃ x2 x3 x4 x5 x6 x7 x8 x9 x10 x11 x12 : Option W, σ = [some (.scr (ns.map W.int)), some (.ref a), x2, x3, x4, x5, x6, x7, x8, x9, x10, x11, x12]) ∧ Hs a s M') ⟨⟨_, _, _, _, _, _, _, _, _, _, _, rfl⟩, hs1⟩ (fun i σ M' K hi hI hK => ?_) (fun σ M' hI => ?_)⟩
  · obtain ⟨⟨x2, x3, x4, x5, x6, x7, x8, x9, x10, x11, x12, rfl⟩, hs2⟩ := hI
    simp only [evs_, c_law_v13_3, f_l_mix, f_l_program, f_l_tree, f_l_next, f_l_hall, f_l_laid, f_l_look, f_l_alike, f_cost, kd_, fL_cost, fL_cheapest, dn]
    refine ⟨a, s, 8, rfl, hs2, by decide, by decide, by omega, fun p M2 pok _ hs3 fr3 => ?_⟩
    have h8 := pok.l8
    have h1 := pok.l1
    simp only [evs_, c_law_v13_4, f_l_mix, f_l_program, f_l_tree, f_l_next, f_l_hall, f_l_laid, f_l_look, f_l_alike, f_cost, kd_, fL_cost, fL_cheapest, dn]
    refine ⟨a, s, p, rfl, hs3, pok, by omega, fun t M3 ok hs4 fr4 => ?_⟩
    simp only [evs_, c_law_v13_5, dLc, wipeW, encP, List.length_map, f_l_mix, f_l_program, f_l_tree, f_l_next, f_l_hall, f_l_laid, f_l_look, f_l_alike, f_cost, kd_, fL_cost, fL_cheapest, dn]
    refine use_next 60 hs4 rfl (by decide) (by decide) fun r M4 hr hs5 fr5 => ?_
    simp only [evs_, dX]
    have e1r : (1 : Int) + (r : Int) = ((1 + r : Nat) : Int) := by omega
    simp only [e1r]
    refine ⟨by omega, by omega, by rw [rangeL_len]; exact szl (by omega), lc_rng0 (fun y => ∃ f : Nat, y = .int f ∧ f < p.length) (fun _ => trivial) hs5 (fun x hx M5 K2 hs6 fr6 hK2 => ?_) fun ys M5 hl hP hs6 fr6 => ?_⟩
    · simp only [evs_, List.length_map, f_l_mix, f_l_program, f_l_tree, f_l_next, f_l_hall, f_l_laid, f_l_look, f_l_alike, f_cost, kd_, fL_cost, fL_cheapest, dn]
      exact use_next p.length hs6 rfl (by omega) (by omega) fun f M6 hf hs7 fr7 => hK2 _ _ ⟨f, rfl, hf⟩ hs7 fr7
    obtain ⟨tr, rfl, htr⟩ : ∃ tr : List Nat, ys = wInts tr ∧ ∀ f ∈ tr, f < p.length := by
      clear hl
      induction ys with
      | nil => exact ⟨[], rfl, by simp⟩
      | cons y ys ih =>
        obtain ⟨f, rfl, hf⟩ := hP y (by simp)
        obtain ⟨tr, rfl, ht⟩ := ih fun z hz => hP z (by simp [hz])
        exact ⟨f :: tr, rfl, fun g hg => by
          rcases List.mem_cons.mp hg with rfl | hg
          · exact hf
          · exact ht g hg⟩
    rw [wInts_len, rangeL_len] at hl
    have htl : 1 ≤ tr.length ∧ tr.length ≤ 60 := by omega
    simp only [evs_, c_law_v13_6, f_l_mix, f_l_program, f_l_tree, f_l_next, f_l_hall, f_l_laid, f_l_look, f_l_alike, f_cost, kd_, fL_cost, fL_cheapest, dn]
    refine ⟨p, t, rfl, pok, ok, ?_⟩
    have ⟨w1, w64⟩ := want64 pok ok
    simp only [evs_, f_l_mix, f_l_program, f_l_tree, f_l_next, f_l_hall, f_l_laid, f_l_look, f_l_alike, f_cost, kd_, fL_cost, fL_cheapest, dn]
    refine ⟨p, t, t.want (szs p), rfl, pok, ok, w64, by omega, fun x l M6 hx hl2 H0 s6 => ?_⟩
    have nx := hs6.at_ne hx
    have nl := hs6.at_ne hl2
    have o : HD.Ok ⟨p, t, [], 0, t.want (szs p), x, l⟩ := ⟨pok, ok, Nat.le_refl _, w64⟩
    have hs7 : Hs a s M6 := by
      obtain ⟨⟨y, u, cells, h3, h4, h5⟩, ne⟩ := hs6
      exact ⟨⟨y, u, cells, s6 _ _ h3, s6 _ _ h4, h5⟩, ne⟩
    have H0 : LallAt ⟨p, t, [], 0, t.want (szs p), x, l⟩ (fun _ => none) 0 M6 := H0
    simp only [evs_, c_law_v13_7]
    refine for_inv (fun j σ M' => (∃ x7 x8 x9 x10 x11 x12, σ = [some (.scr (ns.map W.int)), some (.ref a), some (.int i), some (.tup (p.map encF)), some (encT t), some (.lst (wInts tr)), some (.ref x), x7, x8, x9, x10, x11, x12]) ∧ LallAt ⟨p, t, [], 0, t.want (szs p), x, l⟩ (t.goes (szs p) (0, fun _ => none) (tr.take j)).2 (t.goes (szs p) (0, fun _ => none) (tr.take j)).1 M' ∧ Hs a s M') (fun _ _ _ _ => trivial) _ 0 ⟨⟨_, _, _, _, _, _, rfl⟩, H0, hs7⟩ (fun j w σ M' K2 hw hI hK2 => ?_) (fun σ M7 hI => ?_)
    · obtain ⟨⟨x7, x8, x9, x10, x11, x12, rfl⟩, H1, hs8⟩ := hI
      rw [Nat.zero_add] at H1 hK2
      obtain ⟨f, hf, rfl⟩ : ∃ f : Nat, tr[j]? = some f ∧ w = .int f := by
        unfold wInts at hw
        rw [List.getElem?_map] at hw
        cases e : tr[j]? with
        | none => rw [e] at hw; cases hw
        | some f => rw [e] at hw; cases hw; exact ⟨f, rfl, rfl⟩
      have hfp := htr f (List.mem_of_getElem? hf)
      refine ⟨_, rfl, ?_⟩
      simp only [evs_, c_law_v13_17, f_l_mix, f_l_program, f_l_tree, f_l_next, f_l_hall, f_l_laid, f_l_look, f_l_alike, f_cost, kd_, fL_cost, fL_cheapest, dn]
      refine ⟨⟨p, t, [], 0, t.want (szs p), x, l⟩, _, _, f, rfl, o, H1, hfp, fun found L' M9 lk H4 fr10 hfl => ?_⟩
      obtain ⟨hfo, hLo⟩ := Looked.is lk
      refine hK2 _ _ ⟨⟨_, _, _, _, _, _, rfl⟩, ?_, ?_⟩
      · have et : tr.take (j + 1) = tr.take j ++ [f] := by rw [List.take_add_one, hf]; rfl
        rw [et, goes_snoc]
        rw [hfo, hLo] at H4
        exact H4
      · obtain ⟨⟨y, u, cells, h3, h4, h5⟩, ne⟩ := hs8
        exact ⟨⟨y, u, cells, fr10 _ _ h3 (Ne.symm nx.1) (Ne.symm nl.1), fr10 _ _ h4 (Ne.symm nx.2) (Ne.symm nl.2), h5⟩, ne⟩
    obtain ⟨⟨x7, x8, x9, x10, x11, x12, rfl⟩, H1, hs8⟩ := hI
    rw [show tr.take (0 + (wInts tr).length) = tr from by rw [wInts_len, Nat.zero_add, List.take_length]] at H1
    have H1 : LallAt ⟨p, t, [], 0, t.want (szs p), x, l⟩ (t.goes (szs p) (0, fun _ => none) tr).2 (t.cost (szs p) tr) M7 := H1
    simp only [evs_, c_law_v13_8]
    simp only [evs_, c_law_v13_9, f_l_mix, f_l_program, f_l_tree, f_l_next, f_l_hall, f_l_laid, f_l_look, f_l_alike, f_cost, kd_, fL_cost, fL_cheapest, dn]
    refine ⟨p, t, tr.map fun n : Nat => (n : Int), by rw [← wI_ints]; rfl, pok, ok, by rw [List.length_map]; omega, by omega, fun _ => ?_, fun h => ?_⟩
    rotate_left
    · refine absurd ⟨?_, ?_⟩ h
      · intro z
        have := congrArg List.length z
        rw [List.length_map] at this
        simp at this
        rw [this] at htl
        simp at htl
      · intro x hx
        obtain ⟨f, hf, rfl⟩ := List.mem_map.mp hx
        have := htr f hf
        omega
    rw [map_back]
    simp only [evs_, ld_many H1]
    refine use_alike (d := .int (t.cost (szs p) tr : Nat)) rs_int rs_int ?_
    rw [wI_ints]
    simp only [evs_, ne_same, c_law_v13_10, List.length_map, f_l_mix, f_l_program, f_l_tree, f_l_next, f_l_hall, f_l_laid, f_l_look, f_l_alike, f_cost, kd_, fL_cost, fL_cheapest, dn]
    refine use_next tr.length hs8 rfl (by omega) (by omega) fun kk M8 hkk hs9 fr9 => ?_
    simp only [evs_, c_law_v13_11, List.length_map, f_l_mix, f_l_program, f_l_tree, f_l_next, f_l_hall, f_l_laid, f_l_look, f_l_alike, f_cost, kd_, fL_cost, fL_cheapest, dn]
    refine use_next 9 hs9 rfl (by decide) (by decide) fun r9 M9 hr9 hs10 fr10 => ?_
    have hz : ∀ {a : List Int}, a.length ≤ 100000 → (a.map W.int).length ≤ sizeLine := fun h => by rw [List.length_map]; exact szl (by omega)
    obtain ⟨tz, rfl⟩ : ∃ tz, tz = tr.map fun n : Nat => (n : Int) := ⟨_, rfl⟩
    generalize htz : (tr.map fun n : Nat => (n : Int)) = tz
    have htzl : tz.length = tr.length := by rw [← htz, List.length_map]
    have ec1 : cutW (tz.map W.int) none (some (kk : Int)) = (tz.take kk).map W.int := by rw [cut_toN, List.map_take]
    have ec2 : cutW (tz.map W.int) (some (kk : Int)) none = (tz.drop kk).map W.int := by rw [cut_from (by rw [List.length_map]; omega), List.map_drop]
    simp only [evs_, ec1, ec2, List.length_append, List.length_map, List.length_take, List.length_drop]
    refine ⟨by decide, szl (by omega), szl (by omega), by decide, szl (by omega), by decide, use_next 3 hs10 rfl (by decide) (by decide) fun r3 M10 hr3 hs11 fr11 => ?_⟩
    obtain ⟨bad, hbad, hbl, hbx⟩ : ∃ bad : List Int, atI [W.lst ((tz.take kk).map W.int ++ [.int ((p.length : Int) + (r9 : Int))] ++ (tz.drop kk).map W.int), .lst ((tz.take kk).map W.int ++ [.int (-1)]), .lst []] (r3 : Int) = some (.lst (bad.map W.int)) ∧ bad.length ≤ 62 ∧ (bad = [] ∨ ∃ x, bad[kk]? = some x ∧ ¬ (0 ≤ x ∧ x < (p.length : Int))) := by
      have hkl : (tz.take kk).length = kk := by rw [List.length_take]; omega
      rcases (by omega : r3 = 0 ∨ r3 = 1 ∨ r3 = 2) with rfl | rfl | rfl
      · refine ⟨tz.take kk ++ [(p.length : Int) + (r9 : Int)] ++ tz.drop kk, by rw [List.map_append, List.map_append]; rfl, by simp; omega, .inr ⟨(p.length : Int) + (r9 : Int), ?_, by omega⟩⟩
        rw [List.append_assoc, List.getElem?_append_right (by omega), hkl, Nat.sub_self]
        rfl
      · refine ⟨tz.take kk ++ [-1], by rw [List.map_append]; rfl, by simp; omega, .inr ⟨-1, ?_, by omega⟩⟩
        rw [List.getElem?_append_right (by omega), hkl, Nat.sub_self]
        rfl
      · exact ⟨[], rfl, by simp, .inl rfl⟩
    have hnot : ¬ trOk p.length bad := by
      rintro ⟨h1, h2⟩
      rcases hbx with e | ⟨x, e1, e2⟩
      · exact h1 e
      · exact e2 (h2 x (List.mem_of_getElem? e1))
    simp only [evs_, hbad, c_law_v13_12, f_l_mix, f_l_program, f_l_tree, f_l_next, f_l_hall, f_l_laid, f_l_look, f_l_alike, f_cost, kd_, fL_cost, fL_cheapest, dn]
    refine ⟨two_ (by omega), p, t, bad, rfl, pok, ok, by omega, by omega, fun h => absurd h hnot, fun _ => ⟨rfl, _, rfl, fun M11 s11 => ?_⟩⟩
    have hs12 : Hs a s M11 := by
      obtain ⟨⟨y, u, cells, h3, h4, h5⟩, ne⟩ := hs11
      exact ⟨⟨y, u, cells, s11 _ _ h3, s11 _ _ h4, h5⟩, ne⟩
    simp only [evs_, c_law_v13_13, f_l_mix, f_l_program, f_l_tree, f_l_next, f_l_hall, f_l_laid, f_l_look, f_l_alike, f_cost, kd_, fL_cost, fL_cheapest, dn]
    have ebd : ∃ some' : List Int, cutW (bad.map W.int) (some (if (kk : Int) - 9 > 0 then (kk : Int) - 9 else 0)) (some ((kk : Int) + 9)) = some'.map W.int ∧ some'.length ≤ 62 ∧ ¬ trOk p.length some' := by
      have ea : (if (kk : Int) - 9 > 0 then (kk : Int) - 9 else 0) = ((kk - 9 : Nat) : Int) := by split <;> omega
      have eb : (kk : Int) + 9 = ((kk + 9 : Nat) : Int) := by omega
      rw [ea, eb, cut_nat, ← List.map_take, ← List.map_drop]
      refine ⟨_, rfl, by simp; omega, ?_⟩
      rintro ⟨h1, h2⟩
      rcases hbx with e | ⟨x, e1, e2⟩
      · subst e
        exact h1 (by simp)
      · refine e2 (h2 x ?_)
        rw [List.mem_iff_getElem?]
        refine ⟨kk - (kk - 9), ?_⟩
        rw [List.getElem?_drop, List.getElem?_take, if_pos (by omega), ← e1]
        congr 1
        omega
    obtain ⟨some', es, hsl, hns⟩ := ebd
    rw [es]
    have h15 : ∀ M12, Hs a s M12 → dSs Γ c_law_v13_15 { nx := K, rt := Q, bk := dSs Γ c_law_v13_2 { nx := fun x M' => Q W.non M', rt := Q, ex := Ex }, ct := K, ex := Ex } [some (.scr (ns.map W.int)), some (.ref a), some (.int i), some (.tup (p.map encF)), some (encT t), some (.lst (tz.map W.int)), some (.ref x), x7, some (.lst (tz.map W.int)), some (.int kk), some (.lst (bad.map W.int)), some (.lst (some'.map W.int)), x12] M12 := by
      intro M12 hs13
      simp only [evs_, c_law_v13_15, f_l_mix, f_l_program, f_l_tree, f_l_next, f_l_hall, f_l_laid, f_l_look, f_l_alike, f_cost, kd_, fL_cost, fL_cheapest, dn]
      refine ⟨by decide, use_next 3 hs13 rfl (by decide) (by decide) fun r4 M13 hr4 hs14 fr14 => ?_⟩
      obtain ⟨room, hroom, hrb⟩ : ∃ room : Int, atI [W.int 0, .int 65, .int (-1)] (r4 : Int) = some (.int room) ∧ ¬ (1 ≤ room ∧ room ≤ 64) := by
        rcases (by omega : r4 = 0 ∨ r4 = 1 ∨ r4 = 2) with rfl | rfl | rfl
        · exact ⟨0, rfl, by omega⟩
        · exact ⟨65, rfl, by omega⟩
        · exact ⟨-1, rfl, by omega⟩
      simp only [evs_, hroom, c_law_v13_16, f_l_mix, f_l_program, f_l_tree, f_l_next, f_l_hall, f_l_laid, f_l_look, f_l_alike, f_cost, kd_, fL_cost, fL_cheapest, dn]
      refine ⟨two_ (by omega), p, room, some', rfl, pok, by omega, by omega, fun h5 => ⟨rfl, _, rfl, fun M14 s14 => ⟨by decide, .str "TooMany", ?_, ?_⟩⟩, fun h5 _ => ⟨rfl, _, rfl, fun M14 s14 => ⟨by decide, .str "BadRoom", ?_, ?_⟩⟩, fun _ h => absurd h hrb⟩
      · rw [List.length_map, show ((p.length : Int) / 6) = 1 from by omega]; rfl
      · have hs15 : Hs a s M14 := by
          obtain ⟨⟨y, u, cells, h3, h4, h5⟩, ne⟩ := hs14
          exact ⟨⟨y, u, cells, s14 _ _ h3, s14 _ _ h4, h5⟩, ne⟩
        simp only [evs_, dX]
        exact hK _ _ ⟨⟨_, _, _, _, _, _, _, _, _, _, _, rfl⟩, hs15⟩
      · rw [List.length_map, show ((p.length : Int) / 6) = 0 from by omega]; rfl
      · have hs15 : Hs a s M14 := by
          obtain ⟨⟨y, u, cells, h3, h4, h5⟩, ne⟩ := hs14
          exact ⟨⟨y, u, cells, s14 _ _ h3, s14 _ _ h4, h5⟩, ne⟩
        simp only [evs_, dX]
        exact hK _ _ ⟨⟨_, _, _, _, _, _, _, _, _, _, _, rfl⟩, hs15⟩
    simp only [evs_, c_law_v13_14, List.length_map, f_l_mix, f_l_program, f_l_tree, f_l_next, f_l_hall, f_l_laid, f_l_look, f_l_alike, f_cost, kd_, fL_cost, fL_cheapest, dn]
    by_cases h6 : p.length < 6
    · have h6' : (p.length : Int) < 6 := by omega
      simp only [evs_, h6']
      refine ⟨two_ (by omega), p, 64, some', rfl, pok, by omega, by omega, fun h => by omega, fun _ h => absurd ⟨by omega, by omega⟩ h, fun _ _ => ⟨hns, rfl, _, rfl, fun M12 s12 => ?_⟩⟩
      have hs13 : Hs a s M12 := by
        obtain ⟨⟨y, u, cells, h3, h4, h5⟩, ne⟩ := hs12
        exact ⟨⟨y, u, cells, s12 _ _ h3, s12 _ _ h4, h5⟩, ne⟩
      simp only [evs_, dX]
      exact h15 _ hs13
    · have h6' : ¬ ((p.length : Int) < 6) := by omega
      simp only [evs_, h6']
      exact h15 _ hs12
  · obtain ⟨⟨x2, x3, x4, x5, x6, x7, x8, x9, x10, x11, x12, rfl⟩, hs2⟩ := hI
    simp only [evs_, c_law_v13_2]
    exact q M'
def LVL : Nat := 20
theorem law_use (ns : List Int) : sp_law_v13 LVL [.scr (ns.map W.int)] (fun _ => none) (fun w _ => w = .bl true) fun _ _ => False := ⟨ns, rfl, by decide, fun _ => rfl⟩
end WL
namespace WL
open PySem PySem.Spec PyProof.Rows L2
def top (i : Nat) : Stmt := PySem.Challenge.pw_overlayhall_k14_what_traces_cost.main.body.getD i (.Pass ⟨0, 0, 0, 0⟩)
def inC (s : Stmt) (j : Nat) : Stmt := match s with
  | .ClassDef (body := b) .. => b.getD j (.Pass ⟨0, 0, 0, 0⟩)
  | _ => .Pass ⟨0, 0, 0, 0⟩
def clsName : Nat → Str
  | 17 => "Hall"
  | _ => "Laid"
def nmF : List (Nat × Str) := [(0, "is_number"), (1, "words_in"), (2, "is_function"), (3, "need_program"), (14, "are_parts"), (15, "are_numbers"), (16, "is_without_rings"), (17, "is_tree"), (18, "need_tree"), (19, "need_function"), (23, "need_room"), (24, "need_trace"), (25, "cost_of"), (26, "cost"), (27, "all_parts"), (28, "all_stands"), (29, "cheapest"), (44, "_law_mix"), (45, "_law_next"), (46, "_law_alike"), (47, "_law_leaf"), (48, "_law_call"), (49, "_law_less"), (50, "_law_body"), (51, "_law_words"), (52, "_law_program"), (66, "_law_tree"), (67, "_law_laid"), (64, "_law_look"), (68, "_law_hall"), (57, "law")]
def nmC : List (Nat × Str) := [(16, "Laid"), (17, "Hall")]
def nmG : List (Nat × Str) := [(3, "MOST_FEW"), (5, "MOST_FUNCTIONS"), (6, "MOST_NUM"), (7, "MOST_ROOM"), (8, "MOST_SIZE"), (9, "MOST_WITHIN"), (10, "MOST_WORDS")]
def nmK : List (Nat × Str) := [(0, "ARMS")]
def nmM : Nat → Str
  | 6 => "lay"
  | 7 => "down"
  | 8 => "wanted"
  | 9 => "marks"
  | 10 => "is_in"
  | 11 => "look"
  | 12 => "there"
  | 13 => "cells"
  | 14 => "brought"
  | _ => "__none__"
def flds : List Str := ["begins", "ends", "first", "laid", "lies", "many", "part_of", "parts", "program", "sizes", "stands"]
def frees : List Str := ["isinstance", "range", "zip", "len", "tuple", "list", "sum", "int", "str", "sorted", "max", "min", "bool", "set", "ValueError"]
def ex : Exs := ⟨[(5, "BadFunction"), (2, "BadNumber"), (6, "BadPaper"), (8, "BadPlace"), (1, "BadProgram"), (4, "BadRoom"), (11, "BadText"), (9, "BadTrace"), (3, "BadTree"), (0, "HallError"), (7, "NotShown"), (10, "TooMany")], hl11, [((0, 5), ("BadFunction", "HallError", true)), ((0, 2), ("BadNumber", "HallError", true)), ((0, 6), ("BadPaper", "HallError", true)), ((0, 8), ("BadPlace", "HallError", true)), ((0, 1), ("BadProgram", "HallError", true)), ((0, 4), ("BadRoom", "HallError", true)), ((0, 11), ("BadText", "HallError", true)), ((0, 9), ("BadTrace", "HallError", true)), ((0, 3), ("BadTree", "HallError", true)), ((0, 7), ("NotShown", "HallError", true)), ((0, 10), ("TooMany", "HallError", true))], [((1, "function"), "BadProgram"), ((11, "row"), "BadText"), ((11, "place"), "BadText")], [], []⟩
theorem ex_ok : ex.ok clsName = true := by decide +kernel
def xrL : List (Nat × Str) := [(5, "BadFunction"), (4, "BadRoom"), (9, "BadTrace"), (3, "BadTree"), (10, "TooMany")]
def tf : List He.Defn := [("law", none)]
def nm : Nm where
  xc c := ex.nx.lookup c
  xr c := (xrL.lookup c).isSome
  ic c := (ex.ia.lookup c).isSome
  kn := some "_law_kind"
  fn f := nmF.lookup f
  cl c := nmC.lookup c
  me := nmM
  gl g := nmG.lookup g
  kd g := nmK.lookup g
  flds := flds
  free := frees
def spG : Nat → W
  | 3 => .int 5
  | 5 => .int 8
  | 6 => .int 99
  | 7 => .int 64
  | 8 => .int 8
  | 9 => .int 6
  | 10 => .int 40
  | _ => .non
def spK : Nat → List (Str × W)
  | 0 => ARMS
  | _ => []
def spF : Nat → Nat → Wp
  | 0 => sp_is_number
  | 1 => sp_words_in
  | 2 => sp_is_function
  | 3 => sp_need_program
  | 14 => sp_are_parts
  | 15 => sp_are_numbers
  | 16 => sp_is_without_rings
  | 17 => sp_is_tree
  | 18 => sp_need_tree
  | 19 => sp_need_function
  | 23 => sp_need_room
  | 24 => sp_need_trace
  | 25 => sp_cost_of
  | 26 => sp_cost
  | 27 => sp_all_parts
  | 28 => sp_all_stands
  | 29 => sp_cheapest
  | 44 => sp_l_mix
  | 45 => sp_l_next
  | 46 => sp_l_alike
  | 47 => sp_l_leaf
  | 48 => sp_l_call
  | 49 => sp_l_less
  | 50 => sp_l_body
  | 51 => sp_l_words
  | 52 => sp_l_program
  | 66 => sp_l_tree
  | 67 => sp_l_laid
  | 64 => sp_l_look
  | 68 => sp_l_hall
  | 57 => sp_law_v13
  | _ => fun _ => noP
def spI : Nat → Nat → Wp
  | 16 => sp_Laid_ini
  | 17 => sp_Hall_ini
  | _ => fun _ => noP
def spM : List ((Nat × Nat) × (Nat → Wp)) := [((16, 6), sp_Laid_lay), ((16, 7), sp_Laid_down), ((16, 8), sp_Laid_wanted), ((17, 9), sp_Hall_marks), ((17, 10), sp_Hall_is_in), ((17, 11), sp_Hall_look), ((17, 12), sp_Hall_there), ((17, 13), sp_Hall_cells), ((17, 14), sp_Hall_brought)]
def Sx : Spx := ⟨spG, spK, spF, spI, fun c m => spM.lookup (c, m), ex.isx, ex.sub, ex.xfB, ex.isc, kindP, 0⟩
def z_is_number : Fd := ⟨n_is_number, 3, c_is_number, fnA (top 20), fnB (top 20), fnS (top 20), false⟩
theorem gd_is_number : z_is_number.Good nm := ⟨by decide +kernel, fun _ _ _ _ _ _ _ _ us hl => match us, hl with | [_, _, _], _ => rfl⟩
def z_words_in : Fd := ⟨n_words_in, 3, c_words_in, fnA (top 21), fnB (top 21), fnS (top 21), false⟩
theorem gd_words_in : z_words_in.Good nm := ⟨by decide +kernel, fun _ _ _ _ _ _ _ _ us hl => match us, hl with | [_, _, _], _ => rfl⟩
def z_is_function : Fd := ⟨n_is_function, 2, c_is_function, fnA (top 22), fnB (top 22), fnS (top 22), false⟩
theorem gd_is_function : z_is_function.Good nm := ⟨by decide +kernel, fun _ _ _ _ _ _ _ _ us hl => match us, hl with | [_, _], _ => rfl⟩
def z_need_program : Fd := ⟨n_need_program, 1, c_need_program, fnA (top 23), fnB (top 23), fnS (top 23), false⟩
theorem gd_need_program : z_need_program.Good nm := ⟨by decide +kernel, fun _ _ _ _ _ _ _ _ us hl => match us, hl with | [_], _ => rfl⟩
def z_are_parts : Fd := ⟨n_are_parts, 2, c_are_parts, fnA (top 25), fnB (top 25), fnS (top 25), false⟩
theorem gd_are_parts : z_are_parts.Good nm := ⟨by decide +kernel, fun _ _ _ _ _ _ _ _ us hl => match us, hl with | [_, _], _ => rfl⟩
def z_are_numbers : Fd := ⟨n_are_numbers, 1, c_are_numbers, fnA (top 26), fnB (top 26), fnS (top 26), false⟩
theorem gd_are_numbers : z_are_numbers.Good nm := ⟨by decide +kernel, fun _ _ _ _ _ _ _ _ us hl => match us, hl with | [_], _ => rfl⟩
def z_is_without_rings : Fd := ⟨n_is_without_rings, 1, c_is_without_rings, fnA (top 27), fnB (top 27), fnS (top 27), false⟩
theorem gd_is_without_rings : z_is_without_rings.Good nm := ⟨by decide +kernel, fun _ _ _ _ _ _ _ _ us hl => match us, hl with | [_], _ => rfl⟩
def z_is_tree : Fd := ⟨n_is_tree, 2, c_is_tree, fnA (top 28), fnB (top 28), fnS (top 28), false⟩
theorem gd_is_tree : z_is_tree.Good nm := ⟨by decide +kernel, fun _ _ _ _ _ _ _ _ us hl => match us, hl with | [_, _], _ => rfl⟩
def z_need_tree : Fd := ⟨n_need_tree, 2, c_need_tree, fnA (top 29), fnB (top 29), fnS (top 29), false⟩
theorem gd_need_tree : z_need_tree.Good nm := ⟨by decide +kernel, fun _ _ _ _ _ _ _ _ us hl => match us, hl with | [_, _], _ => rfl⟩
def z_Laid_ini : Fd := ⟨n_Laid_ini, 3, c_Laid_ini, fnA (inC (top 30) 0), fnB (inC (top 30) 0), fnS (inC (top 30) 0), false⟩
theorem gd_Laid_ini : z_Laid_ini.Good nm := ⟨by decide +kernel, fun _ _ _ _ _ _ _ _ us hl => match us, hl with | [_, _, _], _ => rfl⟩
def z_Laid_lay : Fd := ⟨n_Laid_lay, 2, c_Laid_lay, fnA (inC (top 30) 1), fnB (inC (top 30) 1), fnS (inC (top 30) 1), false⟩
theorem gd_Laid_lay : z_Laid_lay.Good nm := ⟨by decide +kernel, fun _ _ _ _ _ _ _ _ us hl => match us, hl with | [_, _], _ => rfl⟩
def z_Laid_down : Fd := ⟨n_Laid_down, 2, c_Laid_down, fnA (inC (top 30) 2), fnB (inC (top 30) 2), fnS (inC (top 30) 2), false⟩
theorem gd_Laid_down : z_Laid_down.Good nm := ⟨by decide +kernel, fun _ _ _ _ _ _ _ _ us hl => match us, hl with | [_, _], _ => rfl⟩
def z_Laid_wanted : Fd := ⟨n_Laid_wanted, 1, c_Laid_wanted, fnA (inC (top 30) 3), fnB (inC (top 30) 3), fnS (inC (top 30) 3), false⟩
theorem gd_Laid_wanted : z_Laid_wanted.Good nm := ⟨by decide +kernel, fun _ _ _ _ _ _ _ _ us hl => match us, hl with | [_], _ => rfl⟩
def z_need_function : Fd := ⟨n_need_function, 2, c_need_function, fnA (top 31), fnB (top 31), fnS (top 31), false⟩
theorem gd_need_function : z_need_function.Good nm := ⟨by decide +kernel, fun _ _ _ _ _ _ _ _ us hl => match us, hl with | [_, _], _ => rfl⟩
def z_need_room : Fd := ⟨n_need_room, 1, c_need_room, fnA (top 34), fnB (top 34), fnS (top 34), false⟩
theorem gd_need_room : z_need_room.Good nm := ⟨by decide +kernel, fun _ _ _ _ _ _ _ _ us hl => match us, hl with | [_], _ => rfl⟩
def z_Hall_ini : Fd := ⟨n_Hall_ini, 4, c_Hall_ini, fnA (inC (top 35) 0), fnB (inC (top 35) 0), fnS (inC (top 35) 0), false⟩
theorem gd_Hall_ini : z_Hall_ini.Good nm := ⟨by decide +kernel, fun _ _ _ _ _ _ _ _ us hl => match us, hl with | [_, _, _, _], _ => rfl⟩
def z_Hall_marks : Fd := ⟨n_Hall_marks, 2, c_Hall_marks, fnA (inC (top 35) 1), fnB (inC (top 35) 1), fnS (inC (top 35) 1), false⟩
theorem gd_Hall_marks : z_Hall_marks.Good nm := ⟨by decide +kernel, fun _ _ _ _ _ _ _ _ us hl => match us, hl with | [_, _], _ => rfl⟩
def z_Hall_is_in : Fd := ⟨n_Hall_is_in, 2, c_Hall_is_in, fnA (inC (top 35) 2), fnB (inC (top 35) 2), fnS (inC (top 35) 2), false⟩
theorem gd_Hall_is_in : z_Hall_is_in.Good nm := ⟨by decide +kernel, fun _ _ _ _ _ _ _ _ us hl => match us, hl with | [_, _], _ => rfl⟩
def z_Hall_look : Fd := ⟨n_Hall_look, 2, c_Hall_look, fnA (inC (top 35) 3), fnB (inC (top 35) 3), fnS (inC (top 35) 3), false⟩
theorem gd_Hall_look : z_Hall_look.Good nm := ⟨by decide +kernel, fun _ _ _ _ _ _ _ _ us hl => match us, hl with | [_, _], _ => rfl⟩
def z_Hall_there : Fd := ⟨n_Hall_there, 2, c_Hall_there, fnA (inC (top 35) 4), fnB (inC (top 35) 4), fnS (inC (top 35) 4), false⟩
theorem gd_Hall_there : z_Hall_there.Good nm := ⟨by decide +kernel, fun _ _ _ _ _ _ _ _ us hl => match us, hl with | [_, _], _ => rfl⟩
def z_Hall_cells : Fd := ⟨n_Hall_cells, 1, c_Hall_cells, fnA (inC (top 35) 5), fnB (inC (top 35) 5), fnS (inC (top 35) 5), false⟩
theorem gd_Hall_cells : z_Hall_cells.Good nm := ⟨by decide +kernel, fun _ _ _ _ _ _ _ _ us hl => match us, hl with | [_], _ => rfl⟩
def z_Hall_brought : Fd := ⟨n_Hall_brought, 1, c_Hall_brought, fnA (inC (top 35) 6), fnB (inC (top 35) 6), fnS (inC (top 35) 6), false⟩
theorem gd_Hall_brought : z_Hall_brought.Good nm := ⟨by decide +kernel, fun _ _ _ _ _ _ _ _ us hl => match us, hl with | [_], _ => rfl⟩
def z_need_trace : Fd := ⟨n_need_trace, 2, c_need_trace, fnA (top 38), fnB (top 38), fnS (top 38), false⟩
theorem gd_need_trace : z_need_trace.Good nm := ⟨by decide +kernel, fun _ _ _ _ _ _ _ _ us hl => match us, hl with | [_, _], _ => rfl⟩
def z_cost_of : Fd := ⟨n_cost_of, 3, c_cost_of, fnA (top 39), fnB (top 39), fnS (top 39), false⟩
theorem gd_cost_of : z_cost_of.Good nm := ⟨by decide +kernel, fun _ _ _ _ _ _ _ _ us hl => match us, hl with | [_, _, _], _ => rfl⟩
def z_cost : Fd := ⟨n_cost, 3, c_cost, fnA (top 40), fnB (top 40), fnS (top 40), false⟩
theorem gd_cost : z_cost.Good nm := ⟨by decide +kernel, fun _ _ _ _ _ _ _ _ us hl => match us, hl with | [_, _, _], _ => rfl⟩
def z_all_parts : Fd := ⟨n_all_parts, 1, c_all_parts, fnA (top 41), fnB (top 41), fnS (top 41), false⟩
theorem gd_all_parts : z_all_parts.Good nm := ⟨by decide +kernel, fun _ _ _ _ _ _ _ _ us hl => match us, hl with | [_], _ => rfl⟩
def z_all_stands : Fd := ⟨n_all_stands, 1, c_all_stands, fnA (top 42), fnB (top 42), fnS (top 42), false⟩
theorem gd_all_stands : z_all_stands.Good nm := ⟨by decide +kernel, fun _ _ _ _ _ _ _ _ us hl => match us, hl with | [_], _ => rfl⟩
def z_cheapest : Fd := ⟨n_cheapest, 3, c_cheapest, fnA (top 43), fnB (top 43), fnS (top 43), false⟩
theorem gd_cheapest : z_cheapest.Good nm := ⟨by decide +kernel, fun _ _ _ _ _ _ _ _ us hl => match us, hl with | [_, _, _], _ => rfl⟩
def z_l_mix : Fd := ⟨n_l_mix, 2, c_l_mix, fnA (top 45), fnB (top 45), fnS (top 45), false⟩
theorem gd_l_mix : z_l_mix.Good nm := ⟨by decide +kernel, fun _ _ _ _ _ _ _ _ us hl => match us, hl with | [_, _], _ => rfl⟩
def z_l_next : Fd := ⟨n_l_next, 2, c_l_next, fnA (top 46), fnB (top 46), fnS (top 46), false⟩
theorem gd_l_next : z_l_next.Good nm := ⟨by decide +kernel, fun _ _ _ _ _ _ _ _ us hl => match us, hl with | [_, _], _ => rfl⟩
def z_l_alike : Fd := ⟨n_l_alike, 2, c_l_alike, fnA (top 47), fnB (top 47), fnS (top 47), false⟩
theorem gd_l_alike : z_l_alike.Good nm := ⟨by decide +kernel, fun _ _ _ _ _ _ _ _ us hl => match us, hl with | [_, _], _ => rfl⟩
def z_l_leaf : Fd := ⟨n_l_leaf, 3, c_l_leaf, fnA (top 48), fnB (top 48), fnS (top 48), false⟩
theorem gd_l_leaf : z_l_leaf.Good nm := ⟨by decide +kernel, fun _ _ _ _ _ _ _ _ us hl => match us, hl with | [_, _, _], _ => rfl⟩
def z_l_call : Fd := ⟨n_l_call, 3, c_l_call, fnA (top 49), fnB (top 49), fnS (top 49), false⟩
theorem gd_l_call : z_l_call.Good nm := ⟨by decide +kernel, fun _ _ _ _ _ _ _ _ us hl => match us, hl with | [_, _, _], _ => rfl⟩
def z_l_less : Fd := ⟨n_l_less, 3, c_l_less, fnA (top 50), fnB (top 50), fnS (top 50), false⟩
theorem gd_l_less : z_l_less.Good nm := ⟨by decide +kernel, fun _ _ _ _ _ _ _ _ us hl => match us, hl with | [_, _, _], _ => rfl⟩
def z_l_body : Fd := ⟨n_l_body, 4, c_l_body, fnA (top 51), fnB (top 51), fnS (top 51), false⟩
theorem gd_l_body : z_l_body.Good nm := ⟨by decide +kernel, fun _ _ _ _ _ _ _ _ us hl => match us, hl with | [_, _, _, _], _ => rfl⟩
def z_l_words : Fd := ⟨n_l_words, 1, c_l_words, fnA (top 52), fnB (top 52), fnS (top 52), false⟩
theorem gd_l_words : z_l_words.Good nm := ⟨by decide +kernel, fun _ _ _ _ _ _ _ _ us hl => match us, hl with | [_], _ => rfl⟩
def z_l_program : Fd := ⟨n_l_program, 2, c_l_program, fnA (top 53), fnB (top 53), fnS (top 53), false⟩
theorem gd_l_program : z_l_program.Good nm := ⟨by decide +kernel, fun _ _ _ _ _ _ _ _ us hl => match us, hl with | [_, _], _ => rfl⟩
def z_l_look : Fd := ⟨n_l_look, 2, c_l_look, fnA (top 56), fnB (top 56), fnS (top 56), false⟩
theorem gd_l_look : z_l_look.Good nm := ⟨by decide +kernel, fun _ _ _ _ _ _ _ _ us hl => match us, hl with | [_, _], _ => rfl⟩
def z_l_tree : Fd := ⟨n_l_tree, 2, c_l_tree, fnA (top 54), fnB (top 54), fnS (top 54), false⟩
theorem gd_l_tree : z_l_tree.Good nm := ⟨by decide +kernel, fun _ _ _ _ _ _ _ _ us hl => match us, hl with | [_, _], _ => rfl⟩
def z_l_laid : Fd := ⟨n_l_laid, 2, c_l_laid, fnA (top 55), fnB (top 55), fnS (top 55), false⟩
theorem gd_l_laid : z_l_laid.Good nm := ⟨by decide +kernel, fun _ _ _ _ _ _ _ _ us hl => match us, hl with | [_, _], _ => rfl⟩
def z_l_hall : Fd := ⟨n_l_hall, 3, c_l_hall, fnA (top 57), fnB (top 57), fnS (top 57), false⟩
theorem gd_l_hall : z_l_hall.Good nm := ⟨by decide +kernel, fun _ _ _ _ _ _ _ _ us hl => match us, hl with | [_, _, _], _ => rfl⟩
def z_law_v13 : Fd := ⟨n_law_v13, 1, c_law_v13, fnA (top 59), fnB (top 59), fnS (top 59), true⟩
theorem gd_law_v13 : z_law_v13.Good nm := ⟨by decide +kernel, fun _ _ _ _ _ _ _ _ us hl => match us, hl with | [_], _ => rfl⟩
def zF : Nat → Fd
  | 0 => z_is_number
  | 1 => z_words_in
  | 2 => z_is_function
  | 3 => z_need_program
  | 14 => z_are_parts
  | 15 => z_are_numbers
  | 16 => z_is_without_rings
  | 17 => z_is_tree
  | 18 => z_need_tree
  | 19 => z_need_function
  | 23 => z_need_room
  | 24 => z_need_trace
  | 25 => z_cost_of
  | 26 => z_cost
  | 27 => z_all_parts
  | 28 => z_all_stands
  | 29 => z_cheapest
  | 44 => z_l_mix
  | 45 => z_l_next
  | 46 => z_l_alike
  | 47 => z_l_leaf
  | 48 => z_l_call
  | 49 => z_l_less
  | 50 => z_l_body
  | 51 => z_l_words
  | 52 => z_l_program
  | 66 => z_l_tree
  | 67 => z_l_laid
  | 64 => z_l_look
  | 68 => z_l_hall
  | 57 => z_law_v13
  | _ => z_is_number
def zI : Nat → Fd
  | 16 => z_Laid_ini
  | 17 => z_Hall_ini
  | _ => z_is_number
def zM : Nat → Nat → Fd
  | 16, 6 => z_Laid_lay
  | 16, 7 => z_Laid_down
  | 16, 8 => z_Laid_wanted
  | 17, 9 => z_Hall_marks
  | 17, 10 => z_Hall_is_in
  | 17, 11 => z_Hall_look
  | 17, 12 => z_Hall_there
  | 17, 13 => z_Hall_cells
  | 17, 14 => z_Hall_brought
  | _, _ => z_is_number
def z_kn : Kd := ⟨n_l_kind, c_l_kind, fnA (top 58), fnB (top 58), fnS (top 58)⟩
theorem gd_kn : z_kn.Good nm 0 := ⟨by decide +kernel, fun _ _ a _ _ _ _ _ _ us h hl => match us, hl with | [_], _ => by cases h; rfl⟩
def Zx : Txt := ⟨zF, zI, zM, z_kn⟩
theorem all_good : AllGood Sx nm Zx where
  fn := all_of fun q hq => by
    simp only [nmF, List.mem_cons, List.not_mem_nil, or_false] at hq
    rcases hq with rfl | rfl | rfl | rfl | rfl | rfl | rfl | rfl | rfl | rfl | rfl | rfl | rfl | rfl | rfl | rfl | rfl | rfl | rfl | rfl | rfl | rfl | rfl | rfl | rfl | rfl | rfl | rfl | rfl | rfl | rfl
    · exact gd_is_number
    · exact gd_words_in
    · exact gd_is_function
    · exact gd_need_program
    · exact gd_are_parts
    · exact gd_are_numbers
    · exact gd_is_without_rings
    · exact gd_is_tree
    · exact gd_need_tree
    · exact gd_need_function
    · exact gd_need_room
    · exact gd_need_trace
    · exact gd_cost_of
    · exact gd_cost
    · exact gd_all_parts
    · exact gd_all_stands
    · exact gd_cheapest
    · exact gd_l_mix
    · exact gd_l_next
    · exact gd_l_alike
    · exact gd_l_leaf
    · exact gd_l_call
    · exact gd_l_less
    · exact gd_l_body
    · exact gd_l_words
    · exact gd_l_program
    · exact gd_l_tree
    · exact gd_l_laid
    · exact gd_l_look
    · exact gd_l_hall
    · exact gd_law_v13
  ini := all_of fun q hq => by
    simp only [nmC, List.mem_cons, List.not_mem_nil, or_false] at hq
    rcases hq with rfl | rfl
    · exact gd_Laid_ini
    · exact gd_Hall_ini
  me := all_of2 fun q hq => by
    simp only [spM, List.mem_cons, List.not_mem_nil, or_false] at hq
    rcases hq with rfl | rfl | rfl | rfl | rfl | rfl | rfl | rfl | rfl
    · exact gd_Laid_lay
    · exact gd_Laid_down
    · exact gd_Laid_wanted
    · exact gd_Hall_marks
    · exact gd_Hall_is_in
    · exact gd_Hall_look
    · exact gd_Hall_there
    · exact gd_Hall_cells
    · exact gd_Hall_brought
  kn := fun x hx => gd_kn
theorem all_keep : AllKeep Sx nm Zx where
  fn := all_of fun q hq => by
    simp only [nmF, List.mem_cons, List.not_mem_nil, or_false] at hq
    rcases hq with rfl | rfl | rfl | rfl | rfl | rfl | rfl | rfl | rfl | rfl | rfl | rfl | rfl | rfl | rfl | rfl | rfl | rfl | rfl | rfl | rfl | rfl | rfl | rfl | rfl | rfl | rfl | rfl | rfl | rfl | rfl
    · exact fun k => (keep_is_number (k := k)).d
    · exact fun k => (keep_words_in (k := k) rfl rfl rfl rfl rfl rfl).d
    · exact fun k => (keep_is_function (k := k) rfl rfl rfl rfl).d
    · exact fun k => (keep_need_program (k := k) rfl rfl).d
    · exact fun k => (keep_are_parts (k := k)).d
    · exact fun k => (keep_are_numbers (k := k) rfl).d
    · exact fun k => (keep_is_without_rings (k := k)).d
    · exact fun k => (keep_is_tree (k := k) rfl rfl rfl rfl).d
    · exact fun k => (keep_need_tree (k := k) rfl rfl).d
    · exact fun k => (keep_need_function (k := k) rfl).d
    · exact fun k => (keep_need_room (k := k) rfl rfl).d
    · exact fun k => (keep_need_trace (k := k) rfl).d
    · exact fun k => (keep_cost_of (k := k) rfl rfl rfl rfl rfl rfl rfl rfl).d
    · exact fun k => (keep_cost (k := k) rfl rfl rfl).d
    · exact fun k => (keep_all_parts (k := k)).d
    · exact fun k => (keep_all_stands (k := k) rfl).d
    · exact fun k => (keep_cheapest (k := k) rfl rfl rfl rfl rfl rfl rfl rfl rfl rfl).d
    · exact fun k => (keep_l_mix (k := k)).d
    · exact fun k => (keep_l_next (k := k)).d
    · exact fun k => (keep_l_alike (k := k) rfl).d
    · exact fun k => (keep_l_leaf (k := k) rfl).d
    · exact fun k => (keep_l_call (k := k) rfl rfl rfl).d
    · exact fun k => (keep_l_less (k := k) rfl rfl).d
    · exact fun k => (keep_l_body (k := k) rfl rfl rfl rfl).d
    · exact fun k => (keep_l_words (k := k) rfl).d
    · exact fun k => (keep_l_program (k := k) rfl rfl rfl rfl).d
    · exact fun k => (keep_l_tree (k := k) rfl).d
    · exact fun k => (keep_l_laid (k := k)).d
    · exact fun k => (keep_l_look (k := k)).d
    · exact fun k => (keep_l_hall (k := k) rfl).d
    · exact fun k => (keep_law_v13 (k := k) rfl rfl rfl rfl rfl rfl rfl rfl rfl (fun h => decide_eq_true h) rfl rfl rfl).d
  ini := all_of fun q hq => by
    simp only [nmC, List.mem_cons, List.not_mem_nil, or_false] at hq
    rcases hq with rfl | rfl
    · exact fun k => (keep_Laid_ini (k := k) rfl rfl).d
    · exact fun k => (keep_Hall_ini (k := k) rfl rfl rfl rfl rfl).d
  me := all_of2 fun q hq => by
    simp only [spM, List.mem_cons, List.not_mem_nil, or_false] at hq
    rcases hq with rfl | rfl | rfl | rfl | rfl | rfl | rfl | rfl | rfl
    · exact fun k => (keep_Laid_lay (k := k) rfl rfl).d
    · exact fun k => (keep_Laid_down (k := k)).d
    · exact fun k => (keep_Laid_wanted (k := k)).d
    · exact fun k => (keep_Hall_marks (k := k)).d
    · exact fun k => (keep_Hall_is_in (k := k) rfl rfl).d
    · exact fun k => (keep_Hall_look (k := k) rfl rfl rfl rfl rfl rfl rfl).d
    · exact fun k => (keep_Hall_there (k := k) rfl rfl rfl rfl rfl).d
    · exact fun k => (keep_Hall_cells (k := k)).d
    · exact fun k => (keep_Hall_brought (k := k)).d
  kn := fun x hx => keep_l_kind (Γ := Sx.gam nm 0 false) rfl (fun k hk => (show ∀ k < 12, 1 ≤ k → ex.sub 0 k = some true by decide +kernel) k hk.1 hk.2) rfl rfl rfl
def faA : List He.Fa := [.glo "is_number", .glo "words_in", .glo "is_function", .glo "need_program", .glo "are_parts", .glo "are_numbers", .glo "is_without_rings", .glo "is_tree", .glo "need_tree", .glo "need_function", .glo "need_room", .glo "need_trace", .glo "cost_of", .glo "cost", .glo "all_parts", .glo "all_stands", .glo "cheapest", .glo "_law_mix", .glo "_law_next", .glo "_law_alike", .glo "_law_leaf", .glo "_law_call", .glo "_law_less", .glo "_law_body", .glo "_law_words", .glo "_law_program", .glo "_law_tree", .glo "_law_laid", .glo "_law_look", .glo "_law_hall", .glo "law", .glo "Laid", .cls "Laid", .mkr "Laid", .glo "Hall", .cls "Hall", .mkr "Hall", .meth "Laid" "lay", .meth "Laid" "down", .meth "Laid" "wanted", .meth "Hall" "marks", .meth "Hall" "is_in", .meth "Hall" "look", .meth "Hall" "there", .meth "Hall" "cells", .meth "Hall" "brought", .glo "_law_kind", .glo "ARMS", .int "MOST_FEW" 5, .int "MOST_FUNCTIONS" 8, .int "MOST_NUM" 99, .int "MOST_ROOM" 64, .int "MOST_SIZE" 8, .int "MOST_WITHIN" 6, .int "MOST_WORDS" 40]
def faN : List He.Fa := (["Laid", "Hall"] : List Str).flatMap fun c : Str => flds.map fun f => .noat c f
def fa : List He.Fa := faA ++ (faN ++ (frees.map He.Fa.free ++ (ex.fa ++ xrL.map fun q => He.Fa.exc q.2)))
def dds : List He.DefD := [⟨("is_number", none), "is_number", "is_number", fnA (top 20), fnB (top 20), fnS (top 20), [], []⟩,
  ⟨("words_in", none), "words_in", "words_in", fnA (top 21), fnB (top 21), fnS (top 21), [], []⟩,
  ⟨("is_function", none), "is_function", "is_function", fnA (top 22), fnB (top 22), fnS (top 22), [], []⟩,
  ⟨("need_program", none), "need_program", "need_program", fnA (top 23), fnB (top 23), fnS (top 23), [], []⟩,
  ⟨("are_parts", none), "are_parts", "are_parts", fnA (top 25), fnB (top 25), fnS (top 25), [], []⟩,
  ⟨("are_numbers", none), "are_numbers", "are_numbers", fnA (top 26), fnB (top 26), fnS (top 26), [], []⟩,
  ⟨("is_without_rings", none), "is_without_rings", "is_without_rings", fnA (top 27), fnB (top 27), fnS (top 27), [], []⟩,
  ⟨("is_tree", none), "is_tree", "is_tree", fnA (top 28), fnB (top 28), fnS (top 28), [], []⟩,
  ⟨("need_tree", none), "need_tree", "need_tree", fnA (top 29), fnB (top 29), fnS (top 29), [], []⟩,
  ⟨("need_function", none), "need_function", "need_function", fnA (top 31), fnB (top 31), fnS (top 31), [], []⟩,
  ⟨("need_room", none), "need_room", "need_room", fnA (top 34), fnB (top 34), fnS (top 34), [], []⟩,
  ⟨("need_trace", none), "need_trace", "need_trace", fnA (top 38), fnB (top 38), fnS (top 38), [], []⟩,
  ⟨("cost_of", none), "cost_of", "cost_of", fnA (top 39), fnB (top 39), fnS (top 39), [], []⟩,
  ⟨("cost", none), "cost", "cost", fnA (top 40), fnB (top 40), fnS (top 40), [], []⟩,
  ⟨("all_parts", none), "all_parts", "all_parts", fnA (top 41), fnB (top 41), fnS (top 41), [], []⟩,
  ⟨("all_stands", none), "all_stands", "all_stands", fnA (top 42), fnB (top 42), fnS (top 42), [], []⟩,
  ⟨("cheapest", none), "cheapest", "cheapest", fnA (top 43), fnB (top 43), fnS (top 43), [], []⟩,
  ⟨("_law_mix", none), "_law_mix", "_law_mix", fnA (top 45), fnB (top 45), fnS (top 45), [], []⟩,
  ⟨("_law_next", none), "_law_next", "_law_next", fnA (top 46), fnB (top 46), fnS (top 46), [], []⟩,
  ⟨("_law_alike", none), "_law_alike", "_law_alike", fnA (top 47), fnB (top 47), fnS (top 47), [], []⟩,
  ⟨("_law_leaf", none), "_law_leaf", "_law_leaf", fnA (top 48), fnB (top 48), fnS (top 48), [], []⟩,
  ⟨("_law_call", none), "_law_call", "_law_call", fnA (top 49), fnB (top 49), fnS (top 49), [], []⟩,
  ⟨("_law_less", none), "_law_less", "_law_less", fnA (top 50), fnB (top 50), fnS (top 50), [], []⟩,
  ⟨("_law_body", none), "_law_body", "_law_body", fnA (top 51), fnB (top 51), fnS (top 51), [], []⟩,
  ⟨("_law_words", none), "_law_words", "_law_words", fnA (top 52), fnB (top 52), fnS (top 52), [], []⟩,
  ⟨("_law_program", none), "_law_program", "_law_program", fnA (top 53), fnB (top 53), fnS (top 53), [], []⟩,
  ⟨("_law_tree", none), "_law_tree", "_law_tree", fnA (top 54), fnB (top 54), fnS (top 54), [], []⟩,
  ⟨("_law_laid", none), "_law_laid", "_law_laid", fnA (top 55), fnB (top 55), fnS (top 55), [], []⟩,
  ⟨("_law_look", none), "_law_look", "_law_look", fnA (top 56), fnB (top 56), fnS (top 56), [], []⟩,
  ⟨("_law_hall", none), "_law_hall", "_law_hall", fnA (top 57), fnB (top 57), fnS (top 57), [], []⟩,
  ⟨("law", none), "law", "law", fnA (top 59), fnB (top 59), fnS (top 59), [], []⟩,
  ⟨("_law_kind", none), "_law_kind", "_law_kind", fnA (top 58), fnB (top 58), fnS (top 58), [], []⟩,
  ⟨("Laid", some "__init__"), "__init__", "Laid.__init__", fnA (inC (top 30) 0), fnB (inC (top 30) 0), fnS (inC (top 30) 0), [], []⟩,
  ⟨("Laid", some "lay"), "lay", "Laid.lay", fnA (inC (top 30) 1), fnB (inC (top 30) 1), fnS (inC (top 30) 1), [], []⟩,
  ⟨("Laid", some "down"), "down", "Laid.down", fnA (inC (top 30) 2), fnB (inC (top 30) 2), fnS (inC (top 30) 2), [], []⟩,
  ⟨("Laid", some "wanted"), "wanted", "Laid.wanted", fnA (inC (top 30) 3), fnB (inC (top 30) 3), fnS (inC (top 30) 3), [], []⟩,
  ⟨("Hall", some "__init__"), "__init__", "Hall.__init__", fnA (inC (top 35) 0), fnB (inC (top 35) 0), fnS (inC (top 35) 0), [], []⟩,
  ⟨("Hall", some "marks"), "marks", "Hall.marks", fnA (inC (top 35) 1), fnB (inC (top 35) 1), fnS (inC (top 35) 1), [], []⟩,
  ⟨("Hall", some "is_in"), "is_in", "Hall.is_in", fnA (inC (top 35) 2), fnB (inC (top 35) 2), fnS (inC (top 35) 2), [], []⟩,
  ⟨("Hall", some "look"), "look", "Hall.look", fnA (inC (top 35) 3), fnB (inC (top 35) 3), fnS (inC (top 35) 3), [], []⟩,
  ⟨("Hall", some "there"), "there", "Hall.there", fnA (inC (top 35) 4), fnB (inC (top 35) 4), fnS (inC (top 35) 4), [], []⟩,
  ⟨("Hall", some "cells"), "cells", "Hall.cells", fnA (inC (top 35) 5), fnB (inC (top 35) 5), fnS (inC (top 35) 5), [], []⟩,
  ⟨("Hall", some "brought"), "brought", "Hall.brought", fnA (inC (top 35) 6), fnB (inC (top 35) 6), fnS (inC (top 35) 6), [], []⟩]
def ltA : List (Str × W) := []
def tbA : List (Str × Str) := [("num", "n"), ("argument", ""), ("way", "f"), ("plus", "xx"), ("less", "xx"), ("times", "xx"), ("if", "xxx"), ("then", "xx"), ("say", "x"), ("call", "fx"), ("through", "xx")]
def names0 : List Str := ["HallError", "BadProgram", "BadNumber", "BadTree", "BadRoom", "BadFunction", "BadPaper", "NotShown", "BadPlace", "BadTrace", "TooMany", "BadText", "MOST_FUNCTIONS", "MOST_SIZE", "MOST_NUM", "MOST_WORDS", "MOST_WITHIN", "ARMS", "is_number", "words_in", "is_function", "need_program", "are_parts", "are_numbers", "is_without_rings", "is_tree", "need_tree", "Laid", "need_function", "MOST_ROOM"]
def names1 : List Str := ["need_room", "Hall", "MOST_FEW", "need_trace", "cost_of", "cost", "all_parts", "all_stands", "cheapest", "_law_mix", "_law_next", "_law_alike", "_law_leaf", "_law_call", "_law_less", "_law_body", "_law_words", "_law_program", "_law_tree", "_law_laid", "_law_look", "_law_hall", "_law_kind"]
def names : List Str := names0 ++ names1
abbrev Rx : PySem.W.OpenRow := PySem.W.OpenLaw.row PySem.Challenge.rw_overlayhall_k14_what_traces_cost
abbrev qv : Program := PySem.W.view Rx.prog [59]
abbrev hkx : PySem.W.Hook := hookV 5 fa dds "ARMS" ltA tbA ex.fb tf
def obx (s : PySem.W.SharedT) : AlV := obsVG 5 fa dds "ARMS" ltA ex.fb tf (HandSHeadRun.getT s)
theorem obx_eq (s : PySem.W.SharedT) : obx s = hkx.obs s.abs := obsVG_eq (HandSHeadRun.getT_eq s)
theorem runF (w : World) : HandSHeadRun.RunEq Rx qv hkx obx 6000 names (w.withFollow "special-get-raises" false) := by
  intro os
  kernel_rfl
theorem runT (w : World) : HandSHeadRun.RunEq Rx qv hkx obx 6000 names (w.withFollow "special-get-raises" true) := by
  intro os
  kernel_rfl
theorem runx (w : World) : HandSHeadRun.RunEq Rx qv hkx obx 6000 names w := PySem.W.byRow2 "special-get-raises" runF runT w
def Tx (K : PySem.W.Frag) : Tb := { K := K, cls := fun c => He.ga K (clsName c), tabs := tabsOf K tf, xd := none, xcl := fun c => He.ga K (ex.xname c) }
theorem cls_in (c : Nat) : clsName c ∈ (["Laid", "Hall"] : List Str) := by
  unfold clsName
  split <;> simp
theorem fa_in {f : He.Fa} (h : f ∈ ex.fa) : f ∈ fa := List.mem_append_right _ (List.mem_append_right _ (List.mem_append_right _ (List.mem_append_left _ h)))
theorem says {w : World} {K : PySem.W.Frag} {h : Heap} {mg : Str → Option Value} {base : Heap} (X : K.In h) (G : h.Ns mainGlobals mg) (c : SaysV fa dds "ARMS" ltA tbA ex.fb tf w h K) (TB : ∀ p ∈ tf.map (He.cT K), LamX.TabB base mg p.1 p.2) : Says Sx nm Zx (Tx K) w mg base where
  fn := all_of fun q hq => by
    simp only [nmF, List.mem_cons, List.not_mem_nil, or_false] at hq
    rcases hq with rfl | rfl | rfl | rfl | rfl | rfl | rfl | rfl | rfl | rfl | rfl | rfl | rfl | rfl | rfl | rfl | rfl | rfl | rfl | rfl | rfl | rfl | rfl | rfl | rfl | rfl | rfl | rfl | rfl | rfl | rfl
    · exact ⟨_, (c.w.d.def_ 0 rfl).choose, _, He.glo_ok X G (c.w.d.fact 0 rfl), (c.w.d.def_ 0 rfl).choose_spec, lm_no rfl⟩
    · exact ⟨_, (c.w.d.def_ 1 rfl).choose, _, He.glo_ok X G (c.w.d.fact 1 rfl), (c.w.d.def_ 1 rfl).choose_spec, lm_no rfl⟩
    · exact ⟨_, (c.w.d.def_ 2 rfl).choose, _, He.glo_ok X G (c.w.d.fact 2 rfl), (c.w.d.def_ 2 rfl).choose_spec, lm_no rfl⟩
    · exact ⟨_, (c.w.d.def_ 3 rfl).choose, _, He.glo_ok X G (c.w.d.fact 3 rfl), (c.w.d.def_ 3 rfl).choose_spec, lm_no rfl⟩
    · exact ⟨_, (c.w.d.def_ 4 rfl).choose, _, He.glo_ok X G (c.w.d.fact 4 rfl), (c.w.d.def_ 4 rfl).choose_spec, lm_no rfl⟩
    · exact ⟨_, (c.w.d.def_ 5 rfl).choose, _, He.glo_ok X G (c.w.d.fact 5 rfl), (c.w.d.def_ 5 rfl).choose_spec, lm_no rfl⟩
    · exact ⟨_, (c.w.d.def_ 6 rfl).choose, _, He.glo_ok X G (c.w.d.fact 6 rfl), (c.w.d.def_ 6 rfl).choose_spec, lm_no rfl⟩
    · exact ⟨_, (c.w.d.def_ 7 rfl).choose, _, He.glo_ok X G (c.w.d.fact 7 rfl), (c.w.d.def_ 7 rfl).choose_spec, lm_no rfl⟩
    · exact ⟨_, (c.w.d.def_ 8 rfl).choose, _, He.glo_ok X G (c.w.d.fact 8 rfl), (c.w.d.def_ 8 rfl).choose_spec, lm_no rfl⟩
    · exact ⟨_, (c.w.d.def_ 9 rfl).choose, _, He.glo_ok X G (c.w.d.fact 9 rfl), (c.w.d.def_ 9 rfl).choose_spec, lm_no rfl⟩
    · exact ⟨_, (c.w.d.def_ 10 rfl).choose, _, He.glo_ok X G (c.w.d.fact 10 rfl), (c.w.d.def_ 10 rfl).choose_spec, lm_no rfl⟩
    · exact ⟨_, (c.w.d.def_ 11 rfl).choose, _, He.glo_ok X G (c.w.d.fact 11 rfl), (c.w.d.def_ 11 rfl).choose_spec, lm_no rfl⟩
    · exact ⟨_, (c.w.d.def_ 12 rfl).choose, _, He.glo_ok X G (c.w.d.fact 12 rfl), (c.w.d.def_ 12 rfl).choose_spec, lm_no rfl⟩
    · exact ⟨_, (c.w.d.def_ 13 rfl).choose, _, He.glo_ok X G (c.w.d.fact 13 rfl), (c.w.d.def_ 13 rfl).choose_spec, lm_no rfl⟩
    · exact ⟨_, (c.w.d.def_ 14 rfl).choose, _, He.glo_ok X G (c.w.d.fact 14 rfl), (c.w.d.def_ 14 rfl).choose_spec, lm_no rfl⟩
    · exact ⟨_, (c.w.d.def_ 15 rfl).choose, _, He.glo_ok X G (c.w.d.fact 15 rfl), (c.w.d.def_ 15 rfl).choose_spec, lm_no rfl⟩
    · exact ⟨_, (c.w.d.def_ 16 rfl).choose, _, He.glo_ok X G (c.w.d.fact 16 rfl), (c.w.d.def_ 16 rfl).choose_spec, lm_no rfl⟩
    · exact ⟨_, (c.w.d.def_ 17 rfl).choose, _, He.glo_ok X G (c.w.d.fact 17 rfl), (c.w.d.def_ 17 rfl).choose_spec, lm_no rfl⟩
    · exact ⟨_, (c.w.d.def_ 18 rfl).choose, _, He.glo_ok X G (c.w.d.fact 18 rfl), (c.w.d.def_ 18 rfl).choose_spec, lm_no rfl⟩
    · exact ⟨_, (c.w.d.def_ 19 rfl).choose, _, He.glo_ok X G (c.w.d.fact 19 rfl), (c.w.d.def_ 19 rfl).choose_spec, lm_no rfl⟩
    · exact ⟨_, (c.w.d.def_ 20 rfl).choose, _, He.glo_ok X G (c.w.d.fact 20 rfl), (c.w.d.def_ 20 rfl).choose_spec, lm_no rfl⟩
    · exact ⟨_, (c.w.d.def_ 21 rfl).choose, _, He.glo_ok X G (c.w.d.fact 21 rfl), (c.w.d.def_ 21 rfl).choose_spec, lm_no rfl⟩
    · exact ⟨_, (c.w.d.def_ 22 rfl).choose, _, He.glo_ok X G (c.w.d.fact 22 rfl), (c.w.d.def_ 22 rfl).choose_spec, lm_no rfl⟩
    · exact ⟨_, (c.w.d.def_ 23 rfl).choose, _, He.glo_ok X G (c.w.d.fact 23 rfl), (c.w.d.def_ 23 rfl).choose_spec, lm_no rfl⟩
    · exact ⟨_, (c.w.d.def_ 24 rfl).choose, _, He.glo_ok X G (c.w.d.fact 24 rfl), (c.w.d.def_ 24 rfl).choose_spec, lm_no rfl⟩
    · exact ⟨_, (c.w.d.def_ 25 rfl).choose, _, He.glo_ok X G (c.w.d.fact 25 rfl), (c.w.d.def_ 25 rfl).choose_spec, lm_no rfl⟩
    · exact ⟨_, (c.w.d.def_ 26 rfl).choose, _, He.glo_ok X G (c.w.d.fact 26 rfl), (c.w.d.def_ 26 rfl).choose_spec, lm_no rfl⟩
    · exact ⟨_, (c.w.d.def_ 27 rfl).choose, _, He.glo_ok X G (c.w.d.fact 27 rfl), (c.w.d.def_ 27 rfl).choose_spec, lm_no rfl⟩
    · exact ⟨_, (c.w.d.def_ 28 rfl).choose, _, He.glo_ok X G (c.w.d.fact 28 rfl), (c.w.d.def_ 28 rfl).choose_spec, lm_no rfl⟩
    · exact ⟨_, (c.w.d.def_ 29 rfl).choose, _, He.glo_ok X G (c.w.d.fact 29 rfl), (c.w.d.def_ 29 rfl).choose_spec, lm_no rfl⟩
    · exact ⟨_, (c.w.d.def_ 30 rfl).choose, _, He.glo_ok X G (c.w.d.fact 30 rfl), (c.w.d.def_ 30 rfl).choose_spec, lm_of (T := Tx K) c rfl (p := ("law", none)) (by simp [tf]) TB (c.w.d.def_ 30 rfl).choose_spec rfl⟩
  ini := all_of fun q hq => by
    simp only [nmC, List.mem_cons, List.not_mem_nil, or_false] at hq
    rcases hq with rfl | rfl
    · exact ⟨He.glo_ok X G (c.w.d.fact 31 rfl), _, (c.w.d.def_ 32 rfl).choose, _, He.mkr_ok (c.w.d.fact 33 rfl), (c.w.d.def_ 32 rfl).choose_spec, lm_no rfl⟩
    · exact ⟨He.glo_ok X G (c.w.d.fact 34 rfl), _, (c.w.d.def_ 36 rfl).choose, _, He.mkr_ok (c.w.d.fact 36 rfl), (c.w.d.def_ 36 rfl).choose_spec, lm_no rfl⟩
  me := all_of2 fun q hq => by
    simp only [spM, List.mem_cons, List.not_mem_nil, or_false] at hq
    rcases hq with rfl | rfl | rfl | rfl | rfl | rfl | rfl | rfl | rfl
    · exact ⟨_, (c.w.d.def_ 33 rfl).choose, _, He.meth_ok (c.w.d.fact 37 rfl), (c.w.d.def_ 33 rfl).choose_spec, lm_no rfl⟩
    · exact ⟨_, (c.w.d.def_ 34 rfl).choose, _, He.meth_ok (c.w.d.fact 38 rfl), (c.w.d.def_ 34 rfl).choose_spec, lm_no rfl⟩
    · exact ⟨_, (c.w.d.def_ 35 rfl).choose, _, He.meth_ok (c.w.d.fact 39 rfl), (c.w.d.def_ 35 rfl).choose_spec, lm_no rfl⟩
    · exact ⟨_, (c.w.d.def_ 37 rfl).choose, _, He.meth_ok (c.w.d.fact 40 rfl), (c.w.d.def_ 37 rfl).choose_spec, lm_no rfl⟩
    · exact ⟨_, (c.w.d.def_ 38 rfl).choose, _, He.meth_ok (c.w.d.fact 41 rfl), (c.w.d.def_ 38 rfl).choose_spec, lm_no rfl⟩
    · exact ⟨_, (c.w.d.def_ 39 rfl).choose, _, He.meth_ok (c.w.d.fact 42 rfl), (c.w.d.def_ 39 rfl).choose_spec, lm_no rfl⟩
    · exact ⟨_, (c.w.d.def_ 40 rfl).choose, _, He.meth_ok (c.w.d.fact 43 rfl), (c.w.d.def_ 40 rfl).choose_spec, lm_no rfl⟩
    · exact ⟨_, (c.w.d.def_ 41 rfl).choose, _, He.meth_ok (c.w.d.fact 44 rfl), (c.w.d.def_ 41 rfl).choose_spec, lm_no rfl⟩
    · exact ⟨_, (c.w.d.def_ 42 rfl).choose, _, He.meth_ok (c.w.d.fact 45 rfl), (c.w.d.def_ 42 rfl).choose_spec, lm_no rfl⟩
  gl := all_of fun q hq => by
    simp only [nmG, List.mem_cons, List.not_mem_nil, or_false] at hq
    rcases hq with rfl | rfl | rfl | rfl | rfl | rfl | rfl
    · exact gl_int (He.int_ok X G (c.w.d.fact 48 rfl))
    · exact gl_int (He.int_ok X G (c.w.d.fact 49 rfl))
    · exact gl_int (He.int_ok X G (c.w.d.fact 50 rfl))
    · exact gl_int (He.int_ok X G (c.w.d.fact 51 rfl))
    · exact gl_int (He.int_ok X G (c.w.d.fact 52 rfl))
    · exact gl_int (He.int_ok X G (c.w.d.fact 53 rfl))
    · exact gl_int (He.int_ok X G (c.w.d.fact 54 rfl))
  kd := all_of fun q hq => by
    simp only [nmK, List.mem_cons, List.not_mem_nil, or_false] at hq
    rcases hq with rfl
    · exact kd_says (He.glo_ok X G (c.w.d.fact 47 rfl)) (kd_of (T := Tx K) c.w.t)
  cls := fun c0 => by
    have h := cls_in c0
    simp only [List.mem_cons, List.not_mem_nil, or_false] at h
    show Cls K (He.ga K (clsName c0))
    rcases h with h | h
    · rw [h]; exact He.cls_ok (c.w.d.fact 32 rfl)
    · rw [h]; exact He.cls_ok (c.w.d.fact 35 rfl)
  noat := fun c0 f hf => He.noat_ok (c.w.d.all (List.mem_append_right _ (List.mem_append_left _ (List.mem_flatMap.mpr ⟨clsName c0, cls_in c0, List.mem_map_of_mem hf⟩))))
  free := fun x hx => He.free_ok X G (c.w.d.all (List.mem_append_right _ (List.mem_append_right _ (List.mem_append_left _ (List.mem_map_of_mem (List.contains_iff_mem.mp hx))))))
  xd := rfl
  xg := Exs.says_xg (T := Tx K) ex_ok (fun _ => rfl) X G fun f hf => c.w.d.all (fa_in hf)
  xr := fun n0 hn X0 hX => by
    obtain ⟨x, hx⟩ := Option.isSome_iff_exists.mp (show (xrL.lookup n0).isSome = true from hn)
    have m := lookup_in hx
    have e : ∀ q ∈ xrL, ex.xname q.1 = q.2 := by decide +kernel
    exact xr_ok (T := Tx K) (x := x) (by show He.ga K (ex.xname n0) = _; rw [e _ m]; rfl) rfl (c.w.d.all (List.mem_append_right _ (List.mem_append_right _ (List.mem_append_right _ (List.mem_append_right _ (List.mem_map.mpr ⟨_, m, rfl⟩)))))) X0 hX
  isx := Exs.says_isx (T := Tx K) ex_ok (fun _ => rfl) c.fb
  sub := Exs.says_sub (T := Tx K) ex_ok (fun _ => rfl) fun f hf => c.w.d.all (fa_in hf)
  xf := Exs.says_xf (T := Tx K) ex_ok (fun _ => rfl) c.fb
  isc := Exs.says_isc (T := Tx K) ex_ok (fun _ => rfl) (fun c0 => by
    have h := cls_in c0
    simp only [List.mem_cons, List.not_mem_nil, or_false] at h
    show Cls K (He.ga K (clsName c0))
    rcases h with h | h
    · rw [h]; exact He.cls_ok (c.w.d.fact 32 rfl)
    · rw [h]; exact He.cls_ok (c.w.d.fact 35 rfl)) c.fb
  ic := Exs.says_ic (T := Tx K) ex_ok (fun _ => rfl) c.fb
  kn := fun x hx => by cases hx; exact ⟨_, (c.w.d.def_ 31 rfl).choose, He.glo_ok X G (c.w.d.fact 46 rfl), (c.w.d.def_ 31 rfl).choose_spec⟩
theorem lawF {l : PySem.W.OpenLaw} {w : World} {K : PySem.W.Frag} {h : Heap} {mg : Str → Option Value} {f : Addr} (X : K.In h) (G : h.Ns mainGlobals mg) (hfa : mg ("law" : Str) = some (.ref f)) (c : SaysV fa dds "ARMS" ltA tbA ex.fb tf w h K) :
    LamX.LawAtS l w K (L2.CX l.prog w) (LVL + 2) 63 "_law_script" mg f h := by
  obtain ⟨fd, F⟩ := c.w.d.def_ 30 rfl
  have e := hfa.symm.trans (He.glo_ok X G (c.w.d.fact 30 rfl))
  cases e
  have b := FunD.bindsA (ps := ["_law_script"]) F fun _ _ _ _ _ _ us hl => match us, hl with | [_], _ => rfl
  refine ⟨fd, tf.map (He.cT K), cP (Tx K) (sp_law_v13 LVL), fun p hp => ?_, fun p hp => ?_, fun p hp => ?_, fun s v => b s [v] rfl, fun H a ns _ _ hT hS => law_sp (T := Tx K) hS (tbOk_start rfl rfl hT) (law_use ns), fun base h1 h2 TB => ?_⟩
  · obtain ⟨q, hq, rfl⟩ := List.mem_map.mp hp
    exact c.empty q hq
  · obtain ⟨q, hq, rfl⟩ := List.mem_map.mp hp
    exact c.out q hq
  · obtain ⟨q, hq, rfl⟩ := List.mem_map.mp hp
    exact c.hd q hq
  · exact fn_all (T := Tx K) (says X G c TB) all_good all_keep (f := 57) (x := "law") rfl F (lm_of (T := Tx K) c rfl (p := ("law", none)) (by simp [tf]) TB F rfl) LVL
end WL
open PySem PySem.W PySem.Calls PyProof.Rows
theorem PySem.Challenge.cw_overlayhall_k14_what_traces_cost_holds : PySem.Challenge.rw_overlayhall_k14_what_traces_cost.Holds := by
  w_on; o_law
  refine HandSHeadRun.head_any (r := OpenLaw.row PySem.Challenge.rw_overlayhall_k14_what_traces_cost) (q := view (OpenLaw.row PySem.Challenge.rw_overlayhall_k14_what_traces_cost).prog [59]) (H := WL.hkx) (ob := WL.obx) (M := 6000) (loose := WL.names) (d := HandSHeadRun.topDef (OpenLaw.row PySem.Challenge.rw_overlayhall_k14_what_traces_cost).prog 59) (kwd := []) WL.obx_eq
    (by kernel_rfl) (fun s => by kernel_rfl) WL.runx (by kernel_rfl) (by kernel_rfl) (by kernel_rfl) (by rfl) (by first | assumption | decide +kernel) (by decide +kernel) ⟨rfl, rfl, rfl, rfl, rfl, by decide +kernel⟩ ?hw ?hc
  case hw => w_witness2
  case hc =>
    refine LamX.walk_ofTsE (l := PySem.Challenge.rw_overlayhall_k14_what_traces_cost) (n := 63) (k := WL.LVL + 2) (x := "_law_script") (CX := fun w => L2.CX (PySem.Challenge.rw_overlayhall_k14_what_traces_cost).prog w) rfl (by decide) (by kernel_rfl) ⟨rfl, by decide, by decide⟩ ?F (fun w H s e s' z => WL.cx_no ⟨_, _, z⟩)
    intro w mg fa h Y G hmg0
    obtain ⟨K, KX, c⟩ := Y
    have hmg : mg ("law" : PySem.Str) = some (.ref fa) := by
      have e : (HandSHeadRun.topDef (OpenLaw.row PySem.Challenge.rw_overlayhall_k14_what_traces_cost).prog 59).name = ("law" : PySem.Str) := by kernel_rfl
      rw [← e]
      exact hmg0
    exact ⟨K, KX, WL.lawF KX G hmg c⟩
