import PyProof.Rows.All
import Wide.All
import OpenK.AllK
import Wide.FinOn
import HandS.ForMost
import HandS.Exc
import HandS.TupAny
import HandS.IsInst
import HandS.More
import HandS.Style
import HandS.SortInts
import HandS.RaiseMore
import KE.GoesEnum
import HandS.Zip
import HandS.Iter
import HandS.Conv
import HandS.Defaults
import HandS.Codes
import PyProof.P3Eq
import HandS.Text
import KE.KStateDown
import HandS.Head0
import HandS.Head1
import HandS.Head2
import HandS.HeadEnd
import HandS.HeadHook1
import HandS.HeadHook2
import HandS.HeadHook3
import PySem.Challenge.RW_overlayhall_k19_whole_written_and_read
set_option Elab.async false
set_option linter.all false
set_option maxRecDepth 100000
set_option maxHeartbeats 0
namespace WL
open PySem L2

inductive W where
  | non | bl (b : Bool) | int (i : Int) | str (x : Str)
  | ref (a : Addr)
  | tup (ws : List W) | lst (ws : List W) | scr (ws : List W)
  | dk (ks : List Key) (ws : List W)
  | dt (ks : List (List Key)) (ws : List W)
  | obj (c : Nat) (ns : List Str) (ws : List W)

inductive MO where
  | lst (ws : List W)
  | dk (kvs : List (Key × W))
  | dt (kvs : List (List Key × W))
  | ins (c : Nat) (fs : List (Str × W))
abbrev Mh := Addr → Option MO
def mup (M : Mh) (a : Addr) (o : MO) : Mh := fun b => if b = a then some o else M b
theorem mup_same {M : Mh} {a : Addr} {o : MO} : mup M a o a = some o := by unfold mup; rw [if_pos rfl]
theorem mup_ne {M : Mh} {a b : Addr} {o : MO} (h : b ≠ a) : mup M a o b = M b := by unfold mup; rw [if_neg h]
theorem mup_mup {M : Mh} {a : Addr} {o u : MO} : mup (mup M a o) a u = mup M a u := by
  funext b; unfold mup; split <;> rfl
theorem m_ne {M : Mh} {a b : Addr} {o : MO} (h : M a = some o) (h' : M b = none) : a ≠ b := by
  intro e; subst e; rw [h] at h'; cases h'

structure Tb where
  K : PySem.W.Frag
  cls : Nat → Addr

def keyW : Key → W
  | .inl i => .int i
  | .inr x => .str x

def ScrAt (T : Tb) (F : Addr → Prop) (H : Hp) (a : Addr) (vs : List V) : Prop :=
  (F a ∧ H a = some (.lst vs)) ∨ (∃ o, H a = some (.frz o (.lst vs))) ∨
    ∃ (o : Obj) (its : Array Value) (n : Nat), T.K.lookup a = some o ∧ o.cls = .type "list" ∧ o.dict = none ∧ o.data = .seq its n ∧ its.size ≤ sizeLine ∧ Vals vs its.toList
theorem ScrAt.sq {T : Tb} {F : Addr → Prop} {H : Hp} {a : Addr} {vs : List V} (h : ScrAt T F H a vs) : SqL T.K H a vs := by
  rcases h with ⟨_, h⟩ | h | h
  · exact .inl (.inl h)
  · exact .inl (.inr h)
  · exact .inr h

mutual
def RW (T : Tb) (F : Addr → Prop) (H : Hp) : W → V → Prop
  | .non, v => v = .non
  | .bl b, v => v = .bl b
  | .int i, v => v = .int i
  | .str x, v => v = .str x
  | .ref a, v => v = .ref a
  | .tup ws, v => ∃ a vs, v = .ref a ∧ SqT T.K H a vs ∧ RWs T F H ws vs
  | .lst ws, v => ∃ a vs, v = .ref a ∧ F a ∧ H a = some (.lst vs) ∧ RWs T F H ws vs
  | .scr ws, v => ∃ a vs, v = .ref a ∧ ScrAt T F H a vs ∧ RWs T F H ws vs
  | .dk ks ws, v => ∃ a, ∃ kvs : List (Key × V), v = .ref a ∧ F a ∧ H a = some (.dK kvs) ∧ ks = kvs.map (·.1) ∧ RWs T F H ws (kvs.map (·.2))
  | .dt ks ws, v => ∃ a, ∃ kvs : List (List Key × V), v = .ref a ∧ F a ∧ H a = some (.dT kvs) ∧ ks = kvs.map (·.1) ∧ RWs T F H ws (kvs.map (·.2))
  | .obj c ns ws, v => ∃ a dx fs, v = .ref a ∧ F a ∧ H a = some (.ins (T.cls c) dx fs) ∧ ns = fs.map (·.1) ∧ RWs T F H ws (fs.map (·.2))
def RWs (T : Tb) (F : Addr → Prop) (H : Hp) : List W → List V → Prop
  | [], vs => vs = []
  | w :: ws, vs => ∃ v r, vs = v :: r ∧ RW T F H w v ∧ RWs T F H ws r
end

def Fzn : HO → Prop
  | .lst _ => True
  | .dK _ => True
  | .dT _ => True
  | .ins _ _ _ => True
  | _ => False

structure Ext (F : Addr → Prop) (H : Hp) (F' : Addr → Prop) (H' : Hp) : Prop where
  fz : ∀ a, F a → F' a ∧ H' a = H a
  tp : ∀ a xs, H a = some (.tup xs) → H' a = some (.tup xs)
  fr : ∀ a o u, H a = some (.frz o u) → H' a = some (.frz o u)
theorem Ext.refl {F : Addr → Prop} {H : Hp} : Ext F H F H := ⟨fun _ h => ⟨h, rfl⟩, fun _ _ h => h, fun _ _ _ h => h⟩
theorem Ext.trans {F F1 F2 : Addr → Prop} {H H1 H2 : Hp} (a : Ext F H F1 H1) (b : Ext F1 H1 F2 H2) : Ext F H F2 H2 :=
  ⟨fun x h => ⟨(b.fz x (a.fz x h).1).1, (b.fz x (a.fz x h).1).2.trans (a.fz x h).2⟩, fun x xs h => b.tp x xs (a.tp x xs h), fun x o u h => b.fr x o u (a.fr x o u h)⟩

section
variable {T : Tb} {F F' : Addr → Prop} {H H' : Hp}
theorem Ext.sqt (e : Ext F H F' H') {a : Addr} {vs : List V} (h : SqT T.K H a vs) : SqT T.K H' a vs := by
  rcases h with (h | ⟨o, h⟩) | h
  · exact .inl (.inl (e.tp _ _ h))
  · exact .inl (.inr ⟨o, e.fr _ _ _ h⟩)
  · exact .inr h
theorem Ext.scr (e : Ext F H F' H') {a : Addr} {vs : List V} (h : ScrAt T F H a vs) : ScrAt T F' H' a vs := by
  rcases h with ⟨h1, h2⟩ | ⟨o, h⟩ | h
  · exact .inl ⟨(e.fz a h1).1, (e.fz a h1).2.trans h2⟩
  · exact .inr (.inl ⟨o, e.fr _ _ _ h⟩)
  · exact .inr (.inr h)
mutual
theorem RW.ext (e : Ext F H F' H') : ∀ {w : W} {v : V}, RW T F H w v → RW T F' H' w v
  | .non, _, h => by simpa only [RW] using h
  | .bl _, _, h => by simpa only [RW] using h
  | .int _, _, h => by simpa only [RW] using h
  | .str _, _, h => by simpa only [RW] using h
  | .ref _, _, h => by simpa only [RW] using h
  | .tup ws, _, h => by
    simp only [RW] at h ⊢
    obtain ⟨a, vs, rfl, h1, h2⟩ := h
    exact ⟨a, vs, rfl, e.sqt h1, RWs.ext e h2⟩
  | .lst ws, _, h => by
    simp only [RW] at h ⊢
    obtain ⟨a, vs, rfl, h1, h2, h3⟩ := h
    exact ⟨a, vs, rfl, (e.fz a h1).1, (e.fz a h1).2.trans h2, RWs.ext e h3⟩
  | .scr ws, _, h => by
    simp only [RW] at h ⊢
    obtain ⟨a, vs, rfl, h1, h2⟩ := h
    exact ⟨a, vs, rfl, e.scr h1, RWs.ext e h2⟩
  | .dk ks ws, _, h => by
    simp only [RW] at h ⊢
    obtain ⟨a, kvs, rfl, h1, h2, h3, h4⟩ := h
    exact ⟨a, kvs, rfl, (e.fz a h1).1, (e.fz a h1).2.trans h2, h3, RWs.ext e h4⟩
  | .dt ks ws, _, h => by
    simp only [RW] at h ⊢
    obtain ⟨a, kvs, rfl, h1, h2, h3, h4⟩ := h
    exact ⟨a, kvs, rfl, (e.fz a h1).1, (e.fz a h1).2.trans h2, h3, RWs.ext e h4⟩
  | .obj c ns ws, _, h => by
    simp only [RW] at h ⊢
    obtain ⟨a, dx, fs, rfl, h1, h2, h3, h4⟩ := h
    exact ⟨a, dx, fs, rfl, (e.fz a h1).1, (e.fz a h1).2.trans h2, h3, RWs.ext e h4⟩
theorem RWs.ext (e : Ext F H F' H') : ∀ {ws : List W} {vs : List V}, RWs T F H ws vs → RWs T F' H' ws vs
  | [], _, h => by simpa only [RWs] using h
  | w :: ws, _, h => by
    simp only [RWs] at h ⊢
    obtain ⟨v, r, rfl, h1, h2⟩ := h
    exact ⟨v, r, rfl, RW.ext e h1, RWs.ext e h2⟩
end
theorem RWs.nil_ {vs : List V} : RWs T F H [] vs ↔ vs = [] := by simp only [RWs]
theorem RWs.nil : RWs T F H [] [] := RWs.nil_.mpr rfl
theorem RWs.cons_ {w : W} {ws : List W} {vs : List V} : RWs T F H (w :: ws) vs ↔ ∃ v r, vs = v :: r ∧ RW T F H w v ∧ RWs T F H ws r := by simp only [RWs]
theorem RWs.cons {w : W} {ws : List W} {v : V} {vs : List V} (h1 : RW T F H w v) (h2 : RWs T F H ws vs) : RWs T F H (w :: ws) (v :: vs) := RWs.cons_.mpr ⟨v, vs, rfl, h1, h2⟩
theorem RWs.length : ∀ {ws : List W} {vs : List V}, RWs T F H ws vs → ws.length = vs.length
  | [], _, h => by rw [RWs.nil_.mp h]; rfl
  | w :: ws, _, h => by
    obtain ⟨v, r, rfl, _, h2⟩ := RWs.cons_.mp h
    rw [List.length_cons, List.length_cons, RWs.length h2]
theorem RWs.get : ∀ {ws : List W} {vs : List V} {i : Nat} {w : W}, RWs T F H ws vs → ws[i]? = some w → ∃ v, vs[i]? = some v ∧ RW T F H w v
  | [], _, i, w, _, e => by simp at e
  | w :: ws, _, 0, x, h, e => by
    obtain ⟨v, r, rfl, h1, h2⟩ := RWs.cons_.mp h
    simp at e; subst e; exact ⟨v, rfl, h1⟩
  | w :: ws, _, i + 1, x, h, e => by
    obtain ⟨v, r, rfl, h1, h2⟩ := RWs.cons_.mp h
    obtain ⟨y, a, b⟩ := RWs.get (i := i) h2 (by simpa using e)
    exact ⟨y, by simpa using a, b⟩
theorem RWs.getV : ∀ {ws : List W} {vs : List V} {i : Nat} {v : V}, RWs T F H ws vs → vs[i]? = some v → ∃ w, ws[i]? = some w ∧ RW T F H w v := fun {ws vs i v} h e => by
  have hl := h.length
  have hi : i < vs.length := (List.getElem?_eq_some_iff.mp e).1
  have e2 : ws[i]? = some (ws[i]'(by omega)) := List.getElem?_eq_getElem (by omega)
  obtain ⟨v', e3, r⟩ := h.get e2
  rw [e] at e3; cases e3
  exact ⟨_, e2, r⟩
theorem RWs.append : ∀ {ws ws' : List W} {vs vs' : List V}, RWs T F H ws vs → RWs T F H ws' vs' → RWs T F H (ws ++ ws') (vs ++ vs')
  | [], _, _, _, h, h' => by rw [RWs.nil_.mp h]; exact h'
  | w :: ws, _, _, _, h, h' => by
    obtain ⟨v, r, rfl, h1, h2⟩ := RWs.cons_.mp h
    exact .cons h1 (RWs.append h2 h')
theorem RWs.set : ∀ {ws : List W} {vs : List V} (i : Nat) {w : W} {v : V}, RWs T F H ws vs → RW T F H w v → RWs T F H (ws.set i w) (vs.set i v)
  | [], _, _, _, _, h, _ => by rw [RWs.nil_.mp h]; exact .nil
  | w :: ws, _, 0, _, _, h, r => by
    obtain ⟨v, s, rfl, h1, h2⟩ := RWs.cons_.mp h
    exact .cons r h2
  | w :: ws, _, i + 1, _, _, h, r => by
    obtain ⟨v, s, rfl, h1, h2⟩ := RWs.cons_.mp h
    exact .cons h1 (RWs.set i h2 r)
theorem RWs.drop : ∀ {ws : List W} {vs : List V} (n : Nat), RWs T F H ws vs → RWs T F H (ws.drop n) (vs.drop n)
  | _, _, 0, h => h
  | [], _, n + 1, h => by rw [RWs.nil_.mp h]; exact .nil
  | w :: ws, _, n + 1, h => by
    obtain ⟨v, s, rfl, h1, h2⟩ := RWs.cons_.mp h
    exact RWs.drop n h2
theorem RWs.take : ∀ {ws : List W} {vs : List V} (n : Nat), RWs T F H ws vs → RWs T F H (ws.take n) (vs.take n)
  | _, _, 0, h => .nil
  | [], _, n + 1, h => by rw [RWs.nil_.mp h]; exact .nil
  | w :: ws, _, n + 1, h => by
    obtain ⟨v, s, rfl, h1, h2⟩ := RWs.cons_.mp h
    exact .cons h1 (RWs.take n h2)
theorem RWs.rep {ws : List W} {vs : List V} (h : RWs T F H ws vs) : ∀ k : Nat, RWs T F H (List.replicate k ws).flatten (List.replicate k vs).flatten
  | 0 => by exact .nil
  | k + 1 => by
    rw [List.replicate_succ, List.replicate_succ, List.flatten_cons, List.flatten_cons]
    exact h.append (RWs.rep h k)
theorem RWs.reverse : ∀ {ws : List W} {vs : List V}, RWs T F H ws vs → RWs T F H ws.reverse vs.reverse
  | [], _, h => by rw [RWs.nil_.mp h]; exact .nil
  | w :: ws, _, h => by
    obtain ⟨v, s, rfl, h1, h2⟩ := RWs.cons_.mp h
    rw [List.reverse_cons, List.reverse_cons]
    exact (RWs.reverse h2).append (.cons h1 .nil)
theorem RWs.erase : ∀ {ws : List W} {vs : List V} (i : Nat), RWs T F H ws vs → RWs T F H (ws.eraseIdx i) (vs.eraseIdx i)
  | [], _, _, h => by rw [RWs.nil_.mp h]; exact .nil
  | w :: ws, _, 0, h => by
    obtain ⟨v, s, rfl, h1, h2⟩ := RWs.cons_.mp h
    exact h2
  | w :: ws, _, i + 1, h => by
    obtain ⟨v, s, rfl, h1, h2⟩ := RWs.cons_.mp h
    exact .cons h1 (RWs.erase i h2)
theorem RW.int_ {i : Int} {v : V} : RW T F H (.int i) v ↔ v = .int i := by simp only [RW]
theorem RW.bl_ {i : Bool} {v : V} : RW T F H (.bl i) v ↔ v = .bl i := by simp only [RW]
theorem RW.str_ {i : Str} {v : V} : RW T F H (.str i) v ↔ v = .str i := by simp only [RW]
theorem RW.non_ {v : V} : RW T F H .non v ↔ v = .non := by simp only [RW]
theorem RW.ref_ {a : Addr} {v : V} : RW T F H (.ref a) v ↔ v = .ref a := by simp only [RW]
theorem RW.tup_ {ws : List W} {v : V} : RW T F H (.tup ws) v ↔ ∃ a vs, v = .ref a ∧ SqT T.K H a vs ∧ RWs T F H ws vs := by simp only [RW]
theorem RW.lst_ {ws : List W} {v : V} : RW T F H (.lst ws) v ↔ ∃ a vs, v = .ref a ∧ F a ∧ H a = some (.lst vs) ∧ RWs T F H ws vs := by simp only [RW]
theorem RW.scr_ {ws : List W} {v : V} : RW T F H (.scr ws) v ↔ ∃ a vs, v = .ref a ∧ ScrAt T F H a vs ∧ RWs T F H ws vs := by simp only [RW]
theorem RW.dk_ {ks : List Key} {ws : List W} {v : V} : RW T F H (.dk ks ws) v ↔ ∃ a, ∃ kvs : List (Key × V), v = .ref a ∧ F a ∧ H a = some (.dK kvs) ∧ ks = kvs.map (·.1) ∧ RWs T F H ws (kvs.map (·.2)) := by simp only [RW]
theorem RW.dt_ {ks : List (List Key)} {ws : List W} {v : V} : RW T F H (.dt ks ws) v ↔ ∃ a, ∃ kvs : List (List Key × V), v = .ref a ∧ F a ∧ H a = some (.dT kvs) ∧ ks = kvs.map (·.1) ∧ RWs T F H ws (kvs.map (·.2)) := by simp only [RW]
theorem RW.obj_ {c : Nat} {ns : List Str} {ws : List W} {v : V} : RW T F H (.obj c ns ws) v ↔ ∃ a dx fs, v = .ref a ∧ F a ∧ H a = some (.ins (T.cls c) dx fs) ∧ ns = fs.map (·.1) ∧ RWs T F H ws (fs.map (·.2)) := by simp only [RW]
theorem RWs.ints : ∀ {ns : List Int} {vs : List V}, RWs T F H (ns.map W.int) vs → vs = ns.map V.int
  | [], _, h => RWs.nil_.mp h
  | n :: ns, _, h => by
    obtain ⟨v, r, rfl, h1, h2⟩ := RWs.cons_.mp h
    rw [RW.int_.mp h1, RWs.ints h2]; rfl
theorem RWs.ofInts : ∀ (ns : List Int), RWs T F H (ns.map W.int) (ns.map V.int)
  | [] => .nil
  | n :: ns => .cons (RW.int_.mpr rfl) (RWs.ofInts ns)
theorem RWs.strs_ : ∀ {ns : List Str} {vs : List V}, RWs T F H (ns.map W.str) vs → vs = ns.map V.str
  | [], _, h => RWs.nil_.mp h
  | n :: ns, _, h => by
    obtain ⟨v, r, rfl, h1, h2⟩ := RWs.cons_.mp h
    rw [RW.str_.mp h1, RWs.strs_ h2]; rfl
theorem RWs.ofStrs : ∀ (ns : List Str), RWs T F H (ns.map W.str) (ns.map V.str)
  | [] => .nil
  | n :: ns => .cons (RW.str_.mpr rfl) (RWs.ofStrs ns)
theorem RW.key {k : Key} {v : V} : RW T F H (keyW k) v ↔ v = kV k := by
  cases k with
  | inl i => exact RW.int_
  | inr x => exact RW.str_
theorem RWs.keys : ∀ {ks : List Key} {vs : List V}, RWs T F H (ks.map keyW) vs → vs = ks.map kV
  | [], _, h => RWs.nil_.mp h
  | n :: ns, _, h => by
    obtain ⟨v, r, rfl, h1, h2⟩ := RWs.cons_.mp h
    rw [RW.key.mp h1, RWs.keys h2]; rfl
end

def RF (T : Tb) (F : Addr → Prop) (H : Hp) : List (Str × W) → List (Str × V) → Prop
  | [], vs => vs = []
  | (n, w) :: ws, vs => ∃ v r, vs = (n, v) :: r ∧ RW T F H w v ∧ RF T F H ws r
def RK {κ : Type} (T : Tb) (F : Addr → Prop) (H : Hp) : List (κ × W) → List (κ × V) → Prop
  | [], vs => vs = []
  | (n, w) :: ws, vs => ∃ v r, vs = (n, v) :: r ∧ RW T F H w v ∧ RK T F H ws r
def RO (T : Tb) (F : Addr → Prop) (H : Hp) : MO → HO → Prop
  | .lst ws, o => ∃ vs, o = .lst vs ∧ RWs T F H ws vs
  | .dk kvs, o => ∃ us, o = .dK us ∧ RK T F H kvs us
  | .dt kvs, o => ∃ us, o = .dT us ∧ RK T F H kvs us
  | .ins c fs, o => ∃ dx us, o = .ins (T.cls c) dx us ∧ RF T F H fs us

structure Sim (T : Tb) (F : Addr → Prop) (H : Hp) (M : Mh) : Prop where
  ob : ∀ a o, M a = some o → ¬ F a ∧ ∃ ho, H a = some ho ∧ RO T F H o ho
  fz : ∀ a, F a → ∃ ho, H a = some ho ∧ Fzn ho

section
variable {T : Tb} {F F' : Addr → Prop} {H H' : Hp} {M : Mh}
theorem RF.ext (e : Ext F H F' H') : ∀ {ws : List (Str × W)} {vs : List (Str × V)}, RF T F H ws vs → RF T F' H' ws vs
  | [], _, h => h
  | (n, w) :: ws, _, h => by
    obtain ⟨v, r, rfl, h1, h2⟩ := h
    exact ⟨v, r, rfl, h1.ext e, RF.ext e h2⟩
theorem RK.ext {κ : Type} (e : Ext F H F' H') : ∀ {ws : List (κ × W)} {vs : List (κ × V)}, RK T F H ws vs → RK T F' H' ws vs
  | [], _, h => h
  | (n, w) :: ws, _, h => by
    obtain ⟨v, r, rfl, h1, h2⟩ := h
    exact ⟨v, r, rfl, h1.ext e, RK.ext e h2⟩
theorem RO.ext (e : Ext F H F' H') : ∀ {o : MO} {u : HO}, RO T F H o u → RO T F' H' o u
  | .lst ws, _, ⟨vs, r, h⟩ => ⟨vs, r, h.ext e⟩
  | .dk ws, _, ⟨vs, r, h⟩ => ⟨vs, r, RK.ext e h⟩
  | .dt ws, _, ⟨vs, r, h⟩ => ⟨vs, r, RK.ext e h⟩
  | .ins c fs, _, ⟨dx, vs, r, h⟩ => ⟨dx, vs, r, RF.ext e h⟩
theorem Sim.fresh (S : Sim T F H M) {p : Addr} (h : H p = none) : M p = none ∧ ¬ F p := by
  refine ⟨?_, fun f => ?_⟩
  · cases e : M p with
    | none => rfl
    | some o =>
      obtain ⟨_, ho, e2, _⟩ := S.ob p o e
      rw [h] at e2; cases e2
  · obtain ⟨ho, e2, _⟩ := S.fz p f
    rw [h] at e2; cases e2
theorem ext_new {p : Addr} {o : HO} (h : H p = none) (hf : ¬ F p) : Ext F H F (upd H p o) :=
  ⟨fun a f => ⟨f, upd_ne (fun e => hf (e ▸ f))⟩, fun a xs e => by rw [upd_ne (ne_of_none e h)]; exact e, fun a x u e => by rw [upd_ne (ne_of_none e h)]; exact e⟩
theorem Sim.newT (S : Sim T F H M) {p : Addr} {vs : List V} (h : H p = none) : Ext F H F (upd H p (.tup vs)) ∧ Sim T F (upd H p (.tup vs)) M := by
  have n := S.fresh h
  have e := ext_new (o := .tup vs) h n.2
  refine ⟨e, ⟨fun a o q => ?_, fun a f => ?_⟩⟩
  · obtain ⟨f, ho, q1, q2⟩ := S.ob a o q
    exact ⟨f, ho, by rw [upd_ne (m_ne q n.1)]; exact q1, q2.ext e⟩
  · obtain ⟨ho, q1, q2⟩ := S.fz a f
    exact ⟨ho, by rw [(e.fz a f).2]; exact q1, q2⟩
theorem Sim.newM (S : Sim T F H M) {p : Addr} {o : HO} {u : MO} (h : H p = none) (r : RO T F H u o) : Ext F H F (upd H p o) ∧ Sim T F (upd H p o) (mup M p u) := by
  have n := S.fresh h
  have e := ext_new (o := o) h n.2
  refine ⟨e, ⟨fun a x q => ?_, fun a f => ?_⟩⟩
  · by_cases ha : a = p
    · subst ha
      rw [mup_same] at q; cases q
      exact ⟨n.2, o, upd_same, r.ext e⟩
    · rw [mup_ne ha] at q
      obtain ⟨f, ho, q1, q2⟩ := S.ob a x q
      exact ⟨f, ho, by rw [upd_ne ha]; exact q1, q2.ext e⟩
  · obtain ⟨ho, q1, q2⟩ := S.fz a f
    exact ⟨ho, by rw [(e.fz a f).2]; exact q1, q2⟩
theorem Sim.newF (S : Sim T F H M) {p : Addr} {o : HO} (h : H p = none) (k : Fzn o) : Ext F H (fun a => F a ∨ a = p) (upd H p o) ∧ Sim T (fun a => F a ∨ a = p) (upd H p o) M := by
  have n := S.fresh h
  have e0 := ext_new (o := o) h n.2
  have e : Ext F H (fun a => F a ∨ a = p) (upd H p o) := ⟨fun a f => ⟨.inl f, (e0.fz a f).2⟩, e0.tp, e0.fr⟩
  refine ⟨e, ⟨fun a x q => ?_, fun a f => ?_⟩⟩
  · have ha := m_ne q n.1
    obtain ⟨f, ho, q1, q2⟩ := S.ob a x q
    exact ⟨fun z => z.elim f ha, ho, by rw [upd_ne ha]; exact q1, q2.ext e⟩
  · rcases f with f | rfl
    · obtain ⟨ho, q1, q2⟩ := S.fz a f
      exact ⟨ho, by rw [(e0.fz a f).2]; exact q1, q2⟩
    · exact ⟨o, upd_same, k⟩
theorem Sim.put (S : Sim T F H M) {a : Addr} {o : HO} {u u0 : MO} (h : M a = some u0) (r : RO T F H u o) : Ext F H F (upd H a o) ∧ Sim T F (upd H a o) (mup M a u) := by
  obtain ⟨nf, h0, e0, r0⟩ := S.ob a u0 h
  have ne : ∀ b x, H b = some x → x ≠ h0 → b ≠ a := fun b x q d z => by subst z; rw [e0] at q; exact d (Option.some.inj q).symm
  have nt : ∀ xs, HO.tup xs ≠ h0 := fun xs z => by
    subst z
    cases u0 with
    | lst ws => obtain ⟨vs, q, _⟩ := r0; cases q
    | dk ws => obtain ⟨vs, q, _⟩ := r0; cases q
    | dt ws => obtain ⟨vs, q, _⟩ := r0; cases q
    | ins c fs => obtain ⟨dx, vs, q, _⟩ := r0; cases q
  have nr : ∀ x y, HO.frz x y ≠ h0 := fun x y z => by
    subst z
    cases u0 with
    | lst ws => obtain ⟨vs, q, _⟩ := r0; cases q
    | dk ws => obtain ⟨vs, q, _⟩ := r0; cases q
    | dt ws => obtain ⟨vs, q, _⟩ := r0; cases q
    | ins c fs => obtain ⟨dx, vs, q, _⟩ := r0; cases q
  have e : Ext F H F (upd H a o) := ⟨fun b f => ⟨f, upd_ne (fun z => nf (z ▸ f))⟩, fun b xs q => by rw [upd_ne (ne b _ q (nt xs))]; exact q, fun b x y q => by rw [upd_ne (ne b _ q (nr x y))]; exact q⟩
  refine ⟨e, ⟨fun b x q => ?_, fun b f => ?_⟩⟩
  · by_cases hb : b = a
    · subst hb
      rw [mup_same] at q; cases q
      exact ⟨nf, o, upd_same, r.ext e⟩
    · rw [mup_ne hb] at q
      obtain ⟨f, ho, q1, q2⟩ := S.ob b x q
      exact ⟨f, ho, by rw [upd_ne hb]; exact q1, q2.ext e⟩
  · obtain ⟨ho, q1, q2⟩ := S.fz b f
    exact ⟨ho, by rw [(e.fz b f).2]; exact q1, q2⟩
theorem Sim.less (S : Sim T F H M) {M' : Mh} (h : ∀ a o, M' a = some o → M a = some o) : Sim T F H M' := ⟨fun a o q => S.ob a o (h a o q), S.fz⟩
end

abbrev Sw := List (Option W)
structure RS (T : Tb) (F : Addr → Prop) (H : Hp) (σw : Sw) (σ : St) : Prop where
  len : σw.length ≤ σ.length
  at_ : ∀ (i : Nat) w, σw[i]? = some (some w) → ∃ v, σ[i]? = some (some v) ∧ RW T F H w v
section
variable {T : Tb} {F F' : Addr → Prop} {H H' : Hp} {M : Mh} {σw : Sw} {σ : St}
theorem RS.ext (e : Ext F H F' H') (r : RS T F H σw σ) : RS T F' H' σw σ := ⟨r.len, fun i w h => by
  obtain ⟨v, a, b⟩ := r.at_ i w h
  exact ⟨v, a, b.ext e⟩⟩
theorem RS.set (r : RS T F H σw σ) (hl : σw.length ≤ σ.length) (i : Nat) {w : W} {v : V} (q : RW T F H w v) : RS T F H (σw.set i (some w)) (σ.set i (some v)) := ⟨by simpa using hl, fun j x h => by
  by_cases hj : i = j
  · subst hj
    by_cases hi : i < σw.length
    · rw [List.getElem?_set_self hi] at h
      cases h
      exact ⟨v, by rw [List.getElem?_set_self (by omega)], q⟩
    · rw [List.getElem?_eq_none (by simpa using hi)] at h; cases h
  · rw [List.getElem?_set_ne hj] at h ⊢
    exact r.at_ j x h⟩
theorem RS.unset (r : RS T F H σw σ) (i : Nat) : RS T F H (σw.set i none) (σ.set i none) := ⟨by simpa using r.len, fun j x h => by
  by_cases hj : i = j
  · subst hj
    by_cases hi : i < σw.length
    · rw [List.getElem?_set_self hi] at h
      cases h
    · rw [List.getElem?_eq_none (by simpa using hi)] at h; cases h
  · rw [List.getElem?_set_ne hj] at h ⊢
    exact r.at_ j x h⟩
def wipeW (σ : Sw) : List Nat → Sw
  | [] => σ
  | v :: vs => (wipeW σ vs).set v none
theorem RS.wipe (r : RS T F H σw σ) : ∀ vs : List Nat, RS T F H (wipeW σw vs) (L2.wipe σ vs)
  | [] => r
  | v :: vs => (RS.wipe r vs).unset v
end

structure Xn where
  cls : Nat
  fs : List (Str × W)
abbrev QW := W → Mh → Prop
abbrev QX := Xn → Mh → Prop
abbrev QS := Sw → Mh → Prop
abbrev DE := Sw → Mh → QW → QX → Prop
abbrev DA := Sw → Mh → (List W → Mh → Prop) → QX → Prop
abbrev DT := Sw → Mh → (Bool → Mh → Prop) → QX → Prop
structure Dw where
  nx : QS
  rt : QW
  bk : QS := fun _ _ => False
  ct : QS := fun _ _ => False
  ex : QX
abbrev DS := Dw → Sw → Mh → Prop
def RX (T : Tb) (F : Addr → Prop) (H : Hp) (x : Xn) (cls : Value) (d : Option Addr) : Prop :=
  cls = .ref (T.cls x.cls) ∧ ((d = none ∧ x.fs = []) ∨ ∃ a us, d = some a ∧ H a = some (.xd us) ∧ RF T F H x.fs us)
def ExK (T : Tb) (E : XK) (F : Addr → Prop) (H : Hp) (Ew : QX) : Prop :=
  ∀ x M' cls d H' F', Ext F H F' H' → RX T F' H' x cls d → Sim T F' H' M' → Ew x M' → E cls d H'
theorem ExK.ext {T : Tb} {E : XK} {F F' : Addr → Prop} {H H' : Hp} {Ew : QX} (k : ExK T E F H Ew) (e : Ext F H F' H') : ExK T E F' H' Ew :=
  fun x M' cls d H2 F2 e2 r s q => k x M' cls d H2 F2 (e.trans e2) r s q
def cE (T : Tb) (E : XK) (τ : DE) : TE := fun σ H Q => ∃ F σw M Qw Ew, RS T F H σw σ ∧ Sim T F H M ∧ τ σw M Qw Ew ∧
  (∀ w M' v H' F', Ext F H F' H' → RW T F' H' w v → Sim T F' H' M' → Qw w M' → Q v H') ∧ ExK T E F H Ew
def cA (T : Tb) (E : XK) (τ : DA) : TA := fun σ H Q => ∃ F σw M Qw Ew, RS T F H σw σ ∧ Sim T F H M ∧ τ σw M Qw Ew ∧
  (∀ ws M' vs H' F', Ext F H F' H' → RWs T F' H' ws vs → Sim T F' H' M' → Qw ws M' → Q vs H') ∧ ExK T E F H Ew
def cT (T : Tb) (E : XK) (τ : DT) : TT := fun σ H Q => ∃ F σw M Qw Ew, RS T F H σw σ ∧ Sim T F H M ∧ τ σw M Qw Ew ∧
  (∀ b M' H' F', Ext F H F' H' → Sim T F' H' M' → Qw b M' → Q b H') ∧ ExK T E F H Ew
def cS (T : Tb) (E : XK) (τ : DS) : TS := fun D σ H => ∃ F σw M Dv, RS T F H σw σ ∧ σw.length ≤ σ.length ∧ Sim T F H M ∧ τ Dv σw M ∧
  (∀ σw' M' σ' H' F', Ext F H F' H' → RS T F' H' σw' σ' → σw'.length ≤ σ'.length → Sim T F' H' M' → Dv.nx σw' M' → D.nx σ' H') ∧
  (∀ w M' v H' F', Ext F H F' H' → RW T F' H' w v → Sim T F' H' M' → Dv.rt w M' → D.rt v H') ∧
  (∀ σw' M' σ' H' F', Ext F H F' H' → RS T F' H' σw' σ' → σw'.length ≤ σ'.length → Sim T F' H' M' → Dv.bk σw' M' → D.bk σ' H') ∧
  (∀ σw' M' σ' H' F', Ext F H F' H' → RS T F' H' σw' σ' → σw'.length ≤ σ'.length → Sim T F' H' M' → Dv.ct σw' M' → D.ct σ' H') ∧ ExK T E F H Dv.ex
abbrev Wp := List W → Mh → QW → QX → Prop
def cP (T : Tb) (p : Wp) : Sp := fun vs H Q E => ∃ F ws M Qw Ew, RWs T F H ws vs ∧ Sim T F H M ∧ p ws M Qw Ew ∧
  (∀ w M' v H' F', Ext F H F' H' → RW T F' H' w v → Sim T F' H' M' → Qw w M' → Q v H') ∧ ExK T E F H Ew
theorem PE.imp {X : Cx} {e : Expr} {t t' : TE} (h : PE X e t) (k : ∀ σ H Q, t' σ H Q → t σ H Q) : PE X e t' := ⟨fun pins s σ H Q I q => h.run pins s σ H Q I (k _ _ _ q)⟩
theorem PT.imp {X : Cx} {e : Expr} {t t' : TT} (h : PT X e t) (k : ∀ σ H Q, t' σ H Q → t σ H Q) : PT X e t' := ⟨fun pins s σ H Q I q => h.run pins s σ H Q I (k _ _ _ q)⟩
theorem PW.imp {X : Cx} {e : Expr} {t t' : TT} (h : L2.PW X e t) (k : ∀ σ H Q, t' σ H Q → t σ H Q) : L2.PW X e t' := ⟨fun w pins s σ H Q I q => h.run w pins s σ H Q I (k _ _ _ q)⟩
theorem PA.imp {X : Cx} {e : List Expr} {t t' : TA} (h : PA X e t) (k : ∀ σ H Q, t' σ H Q → t σ H Q) : PA X e t' := ⟨fun pos pins s σ H Q I q => h.run pos pins s σ H Q I (k _ _ _ q)⟩
theorem PS.imp {X : Cx} {e : Stmt} {t t' : TS} (h : PS X e t) (k : ∀ D σ H, t' D σ H → t D σ H) : PS X e t' := ⟨fun pins s σ H D I q => h.run pins s σ H D I (k _ _ _ q)⟩
theorem PSs.imp {X : Cx} {e : List Stmt} {t t' : TS} (h : PSs X e t) (k : ∀ D σ H, t' D σ H → t D σ H) : PSs X e t' := ⟨fun pins s σ H D I q => h.run pins s σ H D I (k _ _ _ q)⟩
end WL
namespace WL
open PySem L2

def lv (M : Mh) : W → Option (List W)
  | .lst ws => some ws
  | .ref a => match M a with
    | some (.lst ws) => some ws
    | _ => none
  | _ => none
def sv (M : Mh) : W → Option (List W)
  | .lst ws => some ws
  | .scr ws => some ws
  | .tup ws => some ws
  | .ref a => match M a with
    | some (.lst ws) => some ws
    | _ => none
  | _ => none
theorem lv_lst {M : Mh} {ws : List W} : lv M (.lst ws) = some ws := rfl
theorem lv_ref {M : Mh} {a : Addr} {ws : List W} (h : M a = some (.lst ws)) : lv M (.ref a) = some ws := by simp only [lv, h]
theorem sv_lst {M : Mh} {ws : List W} : sv M (.lst ws) = some ws := rfl
theorem sv_tup {M : Mh} {ws : List W} : sv M (.tup ws) = some ws := rfl
theorem sv_scr {M : Mh} {ws : List W} : sv M (.scr ws) = some ws := rfl
theorem sv_ref {M : Mh} {a : Addr} {ws : List W} (h : M a = some (.lst ws)) : sv M (.ref a) = some ws := by simp only [sv, h]
section
variable {T : Tb} {F : Addr → Prop} {H : Hp} {M : Mh} {w : W} {ws : List W} {v : V}
theorem Sim.lst (S : Sim T F H M) {a : Addr} (h : M a = some (.lst ws)) : ¬ F a ∧ ∃ vs, H a = some (.lst vs) ∧ RWs T F H ws vs := by
  obtain ⟨nf, ho, e, vs, rfl, r⟩ := S.ob a _ h
  exact ⟨nf, vs, e, r⟩
theorem lv_ok (S : Sim T F H M) (r : RW T F H w v) (h : lv M w = some ws) : ∃ a vs, v = .ref a ∧ H a = some (.lst vs) ∧ RWs T F H ws vs := by
  cases w with
  | lst us =>
    cases h
    obtain ⟨a, vs, rfl, _, e, q⟩ := RW.lst_.mp r
    exact ⟨a, vs, rfl, e, q⟩
  | ref a =>
    unfold lv at h
    cases e : M a with
    | none => simp only [e] at h; cases h
    | some o => cases o with
      | lst us =>
        simp only [e] at h; cases h
        obtain ⟨_, vs, q1, q2⟩ := S.lst e
        exact ⟨a, vs, RW.ref_.mp r, q1, q2⟩
      | dk _ => simp only [e] at h; cases h
      | dt _ => simp only [e] at h; cases h
      | ins _ _ => simp only [e] at h; cases h
  | _ => cases h
theorem sv_ok (S : Sim T F H M) (r : RW T F H w v) (h : sv M w = some ws) : ∃ a vs, v = .ref a ∧ (SqL T.K H a vs ∨ SqT T.K H a vs) ∧ RWs T F H ws vs := by
  cases w with
  | lst us =>
    cases h
    obtain ⟨a, vs, rfl, _, e, q⟩ := RW.lst_.mp r
    exact ⟨a, vs, rfl, .inl (.of e), q⟩
  | scr us =>
    cases h
    obtain ⟨a, vs, rfl, e, q⟩ := RW.scr_.mp r
    exact ⟨a, vs, rfl, .inl e.sq, q⟩
  | tup us =>
    cases h
    obtain ⟨a, vs, rfl, e, q⟩ := RW.tup_.mp r
    exact ⟨a, vs, rfl, .inr e, q⟩
  | ref a =>
    unfold sv at h
    cases e : M a with
    | none => simp only [e] at h; cases h
    | some o => cases o with
      | lst us =>
        simp only [e] at h; cases h
        obtain ⟨_, vs, q1, q2⟩ := S.lst e
        exact ⟨a, vs, RW.ref_.mp r, .inl (.of q1), q2⟩
      | dk _ => simp only [e] at h; cases h
      | dt _ => simp only [e] at h; cases h
      | ins _ _ => simp only [e] at h; cases h
  | _ => cases h
end

def KQ (T : Tb) (F : Addr → Prop) (H : Hp) (Qw : QW) (Q : VK) : Prop := ∀ w M' v H' F', Ext F H F' H' → RW T F' H' w v → Sim T F' H' M' → Qw w M' → Q v H'
def Ok1 (T : Tb) (r : V → Hp → VK → Prop) (p : W → Mh → QW → Prop) : Prop :=
  ∀ F H M x v Qw Q, Sim T F H M → RW T F H x v → p x M Qw → KQ T F H Qw Q → r v H Q
def Ok2 (T : Tb) (r : R2) (p : W → W → Mh → QW → Prop) : Prop :=
  ∀ F H M x y v u Qw Q, Sim T F H M → RW T F H x v → RW T F H y u → p x y M Qw → KQ T F H Qw Q → r v u H Q
def OkN (T : Tb) (r : List V → Hp → VK → Prop) (p : List W → Mh → QW → Prop) : Prop :=
  ∀ F H M xs vs Qw Q, Sim T F H M → RWs T F H xs vs → p xs M Qw → KQ T F H Qw Q → r vs H Q
def OkM (T : Tb) (r : V → List V → Hp → VK → Prop) (p : W → List W → Mh → QW → Prop) : Prop :=
  ∀ F H M x xs v vs Qw Q, Sim T F H M → RW T F H x v → RWs T F H xs vs → p x xs M Qw → KQ T F H Qw Q → r v vs H Q
theorem KQ.now {T : Tb} {F : Addr → Prop} {H : Hp} {M : Mh} {Qw : QW} {Q : VK} {w : W} {v : V} (k : KQ T F H Qw Q) (S : Sim T F H M) (r : RW T F H w v) (q : Qw w M) : Q v H := k w M v H F .refl r S q
def newL (own : Bool) (ws : List W) (M : Mh) (Q : QW) : Prop := match own with
  | true => ∀ p, M p = none → Q (.ref p) (mup M p (.lst ws))
  | false => Q (.lst ws) M
theorem KQ.newL {T : Tb} {F : Addr → Prop} {H : Hp} {M : Mh} {Qw : QW} {Q : VK} {own : Bool} {ws : List W} {vs : List V} (k : KQ T F H Qw Q) (S : Sim T F H M) (r : RWs T F H ws vs) (q : newL own ws M Qw) :
    ∀ p, H p = none → Q (.ref p) (upd H p (.lst vs)) := fun p hp => by
  cases own with
  | true =>
    obtain ⟨e, S'⟩ := S.newM (o := .lst vs) (u := .lst ws) hp ⟨vs, rfl, r⟩
    exact k _ _ _ _ _ e (RW.ref_.mpr rfl) S' (q p (S.fresh hp).1)
  | false =>
    obtain ⟨e, S'⟩ := S.newF (o := .lst vs) hp trivial
    exact k _ _ _ _ _ e (RW.lst_.mpr ⟨p, vs, rfl, .inr rfl, upd_same, r.ext e⟩) S' q
theorem KQ.newT {T : Tb} {F : Addr → Prop} {H : Hp} {M : Mh} {Qw : QW} {Q : VK} {ws : List W} {vs : List V} (k : KQ T F H Qw Q) (S : Sim T F H M) (r : RWs T F H ws vs) (q : Qw (.tup ws) M) :
    ∀ p, H p = none → Q (.ref p) (upd H p (.tup vs)) := fun p hp => by
  obtain ⟨e, S'⟩ := S.newT (vs := vs) hp
  exact k _ _ _ _ _ e (RW.tup_.mpr ⟨p, vs, rfl, .of upd_same, r.ext e⟩) S' q

def intsW (f : Int → Int → QW → Mh → Prop) : W → W → Mh → QW → Prop
  | .int i, .int j, M, Q => f i j Q M
  | _, _, _, _ => False
theorem ok_ints {T : Tb} {r : R2} {f : Int → Int → QW → Mh → Prop}
    (h : ∀ F H M i j Qw Q, Sim T F H M → f i j Qw M → KQ T F H Qw Q → r (.int i) (.int j) H Q) : Ok2 T r (intsW f) := by
  intro F H M x y v u Qw Q S rx ry p k
  cases x with
  | int i => cases y with
    | int j =>
      rw [RW.int_.mp rx, RW.int_.mp ry]
      exact h F H M i j Qw Q S p k
    | _ => exact p.elim
  | _ => cases y <;> exact p.elim
def subW : W → W → Mh → QW → Prop := intsW fun i j Q M => Q (.int (i - j)) M
def modW : W → W → Mh → QW → Prop := intsW fun i j Q M => 0 < j ∧ Q (.int (i % j)) M
def fdivW : W → W → Mh → QW → Prop := intsW fun i j Q M => (0 < j ∧ j < 1073741824) ∧ Q (.int (i / j)) M
def powW : W → W → Mh → QW → Prop := intsW fun i j Q M => (0 ≤ j ∧ j ≤ 1000000 ∧ i.natAbs < 2 ^ 64) ∧ Q (.int (i ^ j.toNat)) M
variable {T : Tb}
theorem ok_sub : Ok2 T (rI0 fun i j => .int (i - j)) subW := ok_ints fun F H M i j Qw Q S q k => ⟨i, j, rfl, rfl, k.now S (RW.int_.mpr rfl) q⟩
theorem ok_mod : Ok2 T (rI (fun _ j => 0 < j) fun i j => .int (i % j)) modW := ok_ints fun F H M i j Qw Q S q k => ⟨i, j, rfl, rfl, q.1, k.now S (RW.int_.mpr rfl) q.2⟩
theorem ok_fdiv : Ok2 T (rI CDiv fun i j => .int (i / j)) fdivW := ok_ints fun F H M i j Qw Q S q k => ⟨i, j, rfl, rfl, q.1, k.now S (RW.int_.mpr rfl) q.2⟩
theorem ok_pow : Ok2 T (rI CPow fun i j => .int (i ^ j.toNat)) powW := ok_ints fun F H M i j Qw Q S q k => ⟨i, j, rfl, rfl, q.1, k.now S (RW.int_.mpr rfl) q.2⟩
def addW (own : Bool) : W → W → Mh → QW → Prop
  | .int i, .int j, M, Q => Q (.int (i + j)) M
  | .str a, .str b, M, Q => a.length + b.length ≤ sizeLine ∧ Q (.str (a ++ b)) M
  | .tup a, .tup b, M, Q => a.length + b.length ≤ sizeLine ∧ Q (.tup (a ++ b)) M
  | x, y, M, Q => ∃ a b, lv M x = some a ∧ lv M y = some b ∧ a.length + b.length ≤ sizeLine ∧ newL own (a ++ b) M Q
def rAddV (K : PySem.W.Frag) : R2 := fun x y H Q => rI0 (fun i j => .int (i + j)) x y H Q ∨ (∃ i j, x = .str i ∧ y = .str j ∧ i.length + j.length ≤ sizeLine ∧ Q (.str (i ++ j)) H) ∨ rCatA K x y H Q ∨ rCat x y H Q
theorem op_addV {X : Cx} : OpR X (binaryOp .Add) (rAddV X.K) := op_add.or (op_add_str.or (op_catA.or op_cat))
theorem ok_addL {F : Addr → Prop} {H : Hp} {M : Mh} {x y : W} {v u : V} {Qw : QW} {Q : VK} {own : Bool} (S : Sim T F H M) (rx : RW T F H x v) (ry : RW T F H y u)
    (p : ∃ a b, lv M x = some a ∧ lv M y = some b ∧ a.length + b.length ≤ sizeLine ∧ newL own (a ++ b) M Qw) (k : KQ T F H Qw Q) : rCat v u H Q := by
  obtain ⟨a, b, h1, h2, hz, q⟩ := p
  obtain ⟨l, vs, rfl, e1, r1⟩ := lv_ok S rx h1
  obtain ⟨m, us, rfl, e2, r2⟩ := lv_ok S ry h2
  exact ⟨l, m, vs, us, rfl, rfl, e1, e2, by rw [← r1.length, ← r2.length]; exact hz, k.newL S (r1.append r2) q⟩
theorem ok_add {own : Bool} : Ok2 T (rAddV T.K) (addW own) := by
  intro F H M x y v u Qw Q S rx ry p k
  have L : (∃ a b, lv M x = some a ∧ lv M y = some b ∧ a.length + b.length ≤ sizeLine ∧ newL own (a ++ b) M Qw) → rAddV T.K v u H Q := fun p => .inr (.inr (.inr (ok_addL S rx ry p k)))
  cases x with
  | int i =>
    cases y with
    | int j =>
      rw [RW.int_.mp rx, RW.int_.mp ry]
      exact .inl ⟨i, j, rfl, rfl, k.now S (RW.int_.mpr rfl) p⟩
    | _ => exact L p
  | str i =>
    cases y with
    | str j =>
      rw [RW.str_.mp rx, RW.str_.mp ry]
      exact .inr (.inl ⟨i, j, rfl, rfl, p.1, k.now S (RW.str_.mpr rfl) p.2⟩)
    | _ => exact L p
  | tup i =>
    cases y with
    | tup j =>
      obtain ⟨a, vs, rfl, e1, r1⟩ := RW.tup_.mp rx
      obtain ⟨b, us, rfl, e2, r2⟩ := RW.tup_.mp ry
      refine .inr (.inr (.inl ⟨a, b, vs, us, rfl, rfl, e1, e2, by rw [← r1.length, ← r2.length]; exact p.1, fun z => ?_, fun _ z => ?_, fun _ _ => k.newT S (r1.append r2) p.2⟩))
      · subst z
        have : i = [] := List.length_eq_zero_iff.mp (by rw [r1.length]; rfl)
        subst this
        exact k.now S (RW.tup_.mpr ⟨b, us, rfl, e2, r2⟩) p.2
      · subst z
        have : j = [] := List.length_eq_zero_iff.mp (by rw [r2.length]; rfl)
        subst this
        have q : Qw (.tup (i ++ [])) M := p.2
        rw [List.append_nil] at q
        exact k.now S (RW.tup_.mpr ⟨a, vs, rfl, e1, r1⟩) q
    | _ => exact L p
  | _ => exact L p
def mulW (own : Bool) : W → W → Mh → QW → Prop
  | .int i, .int j, M, Q => CMul i j ∧ Q (.int (i * j)) M
  | x, .int k, M, Q => ∃ a, lv M x = some a ∧ -(2 ^ 63) ≤ k ∧ k < 2 ^ 63 ∧ a.length * k.toNat ≤ sizeLine ∧ newL own (List.replicate k.toNat a).flatten M Q
  | _, _, _, _ => False
def rMulV : R2 := fun x y H Q => rI CMul (fun i j => .int (i * j)) x y H Q ∨ rRep x y H Q
theorem op_mulV {X : Cx} : OpR X (binaryOp .Mult) rMulV := op_mul.or op_rep
theorem ok_mul {own : Bool} : Ok2 T rMulV (mulW own) := by
  intro F H M x y v u Qw Q S rx ry p k
  cases y with
  | int j =>
    rw [RW.int_.mp ry]
    have L : (∃ a, lv M x = some a ∧ -(2 ^ 63) ≤ j ∧ j < 2 ^ 63 ∧ a.length * j.toNat ≤ sizeLine ∧ newL own (List.replicate j.toNat a).flatten M Qw) → rMulV v (.int j) H Q := fun ⟨a, h1, h2, h3, h4, q⟩ => by
      obtain ⟨l, vs, rfl, e1, r1⟩ := lv_ok S rx h1
      exact .inr ⟨l, j, vs, rfl, rfl, e1, h2, h3, by rw [← r1.length]; exact h4, k.newL S (r1.rep _) q⟩
    cases x with
    | int i =>
      rw [RW.int_.mp rx]
      exact .inl ⟨i, j, rfl, rfl, p.1, k.now S (RW.int_.mpr rfl) p.2⟩
    | _ => exact L p
  | _ => cases x <;> exact p.elim

mutual
def dat : W → Option PyData
  | .non => some .none
  | .bl b => some (.bool b)
  | .int i => some (.int i)
  | .str x => some (.str x)
  | .tup ws => (dats ws).map .tuple
  | .lst ws => (dats ws).map .list
  | .scr ws => (dats ws).map .list
  | _ => none
def dats : List W → Option (List PyData)
  | [] => some []
  | w :: ws => match dat w, dats ws with
    | some d, some ds => some (d :: ds)
    | _, _ => none
end
def datM (M : Mh) (w : W) : Option PyData := match w with
  | .ref a => match M a with
    | some (.lst ws) => (dats ws).map .list
    | _ => none
  | w => dat w
section
variable {F : Addr → Prop} {H : Hp} {M : Mh}
mutual
theorem dat_ok : ∀ {w : W} {v : V} {d : PyData}, RW T F H w v → dat w = some d → Dp T.K H v d
  | .non, _, _, r, h => by simp only [dat] at h; cases h; rw [RW.non_.mp r]; exact .non
  | .bl b, _, _, r, h => by simp only [dat] at h; cases h; rw [RW.bl_.mp r]; exact .bl b
  | .int i, _, _, r, h => by simp only [dat] at h; cases h; rw [RW.int_.mp r]; exact .int i
  | .str x, _, _, r, h => by simp only [dat] at h; cases h; rw [RW.str_.mp r]; exact .str x
  | .ref _, _, _, _, h => by simp only [dat] at h; cases h
  | .tup ws, _, _, r, h => by
    simp only [dat] at h
    cases e : dats ws with
    | none => rw [e] at h; cases h
    | some ds =>
      rw [e] at h; cases h
      obtain ⟨a, vs, rfl, e1, r1⟩ := RW.tup_.mp r
      exact .tup e1 (dats_ok r1 e)
  | .lst ws, _, _, r, h => by
    simp only [dat] at h
    cases e : dats ws with
    | none => rw [e] at h; cases h
    | some ds =>
      rw [e] at h; cases h
      obtain ⟨a, vs, rfl, _, e1, r1⟩ := RW.lst_.mp r
      exact .lst (.of e1) (dats_ok r1 e)
  | .scr ws, _, _, r, h => by
    simp only [dat] at h
    cases e : dats ws with
    | none => rw [e] at h; cases h
    | some ds =>
      rw [e] at h; cases h
      obtain ⟨a, vs, rfl, e1, r1⟩ := RW.scr_.mp r
      exact .lst e1.sq (dats_ok r1 e)
  | .dk _ _, _, _, _, h => by simp only [dat] at h; cases h
  | .dt _ _, _, _, _, h => by simp only [dat] at h; cases h
  | .obj _ _ _, _, _, _, h => by simp only [dat] at h; cases h
theorem dats_ok : ∀ {ws : List W} {vs : List V} {ds : List PyData}, RWs T F H ws vs → dats ws = some ds → DpAll T.K H vs ds
  | [], _, _, r, h => by simp only [dats] at h; cases h; rw [RWs.nil_.mp r]; exact .nil
  | w :: ws, _, _, r, h => by
    obtain ⟨v, s, rfl, r1, r2⟩ := RWs.cons_.mp r
    simp only [dats] at h
    cases e1 : dat w with
    | none => rw [e1] at h; cases h
    | some d => cases e2 : dats ws with
      | none => rw [e1, e2] at h; cases h
      | some ds =>
        rw [e1, e2] at h; cases h
        exact .cons (dat_ok r1 e1) (dats_ok r2 e2)
end
theorem datM_ok (S : Sim T F H M) {w : W} {v : V} {d : PyData} (r : RW T F H w v) (h : datM M w = some d) : Dp T.K H v d := by
  cases w with
  | ref a =>
    unfold datM at h
    simp only at h
    cases e : M a with
    | none => rw [e] at h; cases h
    | some o => cases o with
      | lst ws =>
        rw [e] at h
        simp only at h
        cases e2 : dats ws with
        | none => rw [e2] at h; cases h
        | some ds =>
          rw [e2] at h; cases h
          obtain ⟨_, vs, q1, q2⟩ := S.lst e
          rw [RW.ref_.mp r]
          exact .lst (.of q1) (dats_ok q2 e2)
      | dk _ => rw [e] at h; cases h
      | dt _ => rw [e] at h; cases h
      | ins _ _ => rw [e] at h; cases h
  | non => exact dat_ok r h
  | bl _ => exact dat_ok r h
  | int _ => exact dat_ok r h
  | str _ => exact dat_ok r h
  | tup _ => exact dat_ok r h
  | lst _ => exact dat_ok r h
  | scr _ => exact dat_ok r h
  | dk _ _ => exact dat_ok r h
  | dt _ _ => exact dat_ok r h
  | obj _ _ _ => exact dat_ok r h
end
def eqW (M : Mh) : W → W → Bool → Prop
  | .int i, .int j, b => b = decide (i = j)
  | .str i, .str j, b => b = decide (i = j)
  | .bl i, .bl j, b => b = decide (i = j)
  | .non, .non, b => b = true
  | .non, .int _, b => b = false
  | .non, .str _, b => b = false
  | .non, .bl _, b => b = false
  | .int _, .non, b => b = false
  | .str _, .non, b => b = false
  | .bl _, .non, b => b = false
  | .int _, .str _, b => b = false
  | .str _, .int _, b => b = false
  | .bl _, .str _, b => b = false
  | .str _, .bl _, b => b = false
  | x, y, b => ∃ d e, datM M x = some d ∧ datM M y = some e ∧ SeqAt.shaped d = true ∧ SeqAt.shaped e = true ∧ b = PyData.eqv d e
def rEqV (K : PySem.W.Frag) : R2 := fun x y H Q => rEq x y H Q ∨ rEqD K x y H Q
def rNeV (K : PySem.W.Frag) : R2 := fun x y H Q => rNe x y H Q ∨ rNeD K x y H Q
theorem op_eqV {X : Cx} (hu : X.A.units + 64 < cLine) : OpR X (compareOp .Eq) (rEqV X.K) := op_eq.or (op_eqD hu)
theorem op_neV {X : Cx} (hu : X.A.units + 64 < cLine) : OpR X (compareOp .NotEq) (rNeV X.K) := op_ne.or (op_neD hu)
theorem vdec_int {i j : Int} : decide (V.int i = V.int j) = decide (i = j) := by
  by_cases h : i = j
  · simp [h]
  · rw [decide_eq_false h, decide_eq_false]; exact fun z => h (V.int.inj z)
theorem vdec_bl {i j : Bool} : decide (V.bl i = V.bl j) = decide (i = j) := by
  by_cases h : i = j
  · simp [h]
  · rw [decide_eq_false h, decide_eq_false]; exact fun z => h (V.bl.inj z)
theorem vdec_str {i j : Str} : decide (V.str i = V.str j) = decide (i = j) := by
  by_cases h : i = j
  · simp [h]
  · rw [decide_eq_false h, decide_eq_false]; exact fun z => h (V.str.inj z)
theorem eqW_ok {F : Addr → Prop} {H : Hp} {M : Mh} {x y : W} {v u : V} {b : Bool} (S : Sim T F H M) (rx : RW T F H x v) (ry : RW T F H y u) (h : eqW M x y b) :
    (scal v u = true ∧ decide (v = u) = b) ∨ ∃ d e, Dp T.K H v d ∧ Dp T.K H u e ∧ SeqAt.shaped d = true ∧ SeqAt.shaped e = true ∧ b = PyData.eqv d e := by
  have L : (∃ d e, datM M x = some d ∧ datM M y = some e ∧ SeqAt.shaped d = true ∧ SeqAt.shaped e = true ∧ b = PyData.eqv d e) → ∃ d e, Dp T.K H v d ∧ Dp T.K H u e ∧ SeqAt.shaped d = true ∧ SeqAt.shaped e = true ∧ b = PyData.eqv d e :=
    fun ⟨d, e, h1, h2, h3, h4, h5⟩ => ⟨d, e, datM_ok S rx h1, datM_ok S ry h2, h3, h4, h5⟩
  cases x <;> cases y <;> first
    | exact .inr (L h)
    | (simp only [RW.int_, RW.str_, RW.bl_, RW.non_] at rx ry
       subst rx ry
       first
         | exact .inl ⟨rfl, vdec_int.trans h.symm⟩
         | exact .inl ⟨rfl, vdec_str.trans h.symm⟩
         | exact .inl ⟨rfl, vdec_bl.trans h.symm⟩
         | exact .inl ⟨rfl, (decide_eq_true rfl).trans h.symm⟩
         | exact .inl ⟨rfl, (decide_eq_false (fun z => nomatch z)).trans h.symm⟩)
def eqV_ : W → W → Mh → QW → Prop := fun x y M Q => ∃ b, eqW M x y b ∧ Q (.bl b) M
def neV_ : W → W → Mh → QW → Prop := fun x y M Q => ∃ b, eqW M x y b ∧ Q (.bl (!b)) M
theorem ok_eq : Ok2 T (rEqV T.K) eqV_ := by
  intro F H M x y v u Qw Q S rx ry ⟨b, p, q⟩ k
  rcases eqW_ok S rx ry p with ⟨h1, h2⟩ | ⟨d, e, h1, h2, h3, h4, h5⟩
  · exact .inl ⟨h1, by rw [h2]; exact k.now S (RW.bl_.mpr rfl) q⟩
  · exact .inr ⟨d, e, h1, h2, h3, h4, by rw [← h5]; exact k.now S (RW.bl_.mpr rfl) q⟩
theorem ok_ne : Ok2 T (rNeV T.K) neV_ := by
  intro F H M x y v u Qw Q S rx ry ⟨b, p, q⟩ k
  rcases eqW_ok S rx ry p with ⟨h1, h2⟩ | ⟨d, e, h1, h2, h3, h4, h5⟩
  · exact .inl ⟨h1, by rw [h2]; exact k.now S (RW.bl_.mpr rfl) q⟩
  · exact .inr ⟨d, e, h1, h2, h3, h4, by rw [← h5]; exact k.now S (RW.bl_.mpr rfl) q⟩
def ltW : W → W → Mh → QW → Prop := intsW fun i j Q M => Q (.bl (decide (i < j))) M
def leW : W → W → Mh → QW → Prop := intsW fun i j Q M => Q (.bl (decide (i ≤ j))) M
def gtW : W → W → Mh → QW → Prop := intsW fun i j Q M => Q (.bl (decide (j < i))) M
def geW : W → W → Mh → QW → Prop := intsW fun i j Q M => Q (.bl (decide (j ≤ i))) M
theorem ok_lt : Ok2 T (rI0 fun i j => .bl (decide (i < j))) ltW := ok_ints fun F H M i j Qw Q S q k => ⟨i, j, rfl, rfl, k.now S (RW.bl_.mpr rfl) q⟩
theorem ok_le : Ok2 T (rI0 fun i j => .bl (decide (i ≤ j))) leW := ok_ints fun F H M i j Qw Q S q k => ⟨i, j, rfl, rfl, k.now S (RW.bl_.mpr rfl) q⟩
theorem ok_gt : Ok2 T (rI0 fun i j => .bl (decide (j < i))) gtW := ok_ints fun F H M i j Qw Q S q k => ⟨i, j, rfl, rfl, k.now S (RW.bl_.mpr rfl) q⟩
theorem ok_ge : Ok2 T (rI0 fun i j => .bl (decide (j ≤ i))) geW := ok_ints fun F H M i j Qw Q S q k => ⟨i, j, rfl, rfl, k.now S (RW.bl_.mpr rfl) q⟩
def isNonW : W → Bool
  | .non => true
  | _ => false
def isW (neg : Bool) : W → W → Mh → QW → Prop
  | x, .non, M, Q => Q (.bl (if neg then !isNonW x else isNonW x)) M
  | .bl a, .bl b, M, Q => Q (.bl (if neg then !decide (a = b) else decide (a = b))) M
  | _, _, _, _ => False
theorem isNon_ok {F : Addr → Prop} {H : Hp} {x : W} {v : V} (rx : RW T F H x v) : decide (v = .non) = isNonW x := by
  cases x with
  | non => rw [RW.non_.mp rx]; rfl
  | bl b => rw [RW.bl_.mp rx]; exact decide_eq_false (fun z => nomatch z)
  | int b => rw [RW.int_.mp rx]; exact decide_eq_false (fun z => nomatch z)
  | str b => rw [RW.str_.mp rx]; exact decide_eq_false (fun z => nomatch z)
  | ref b => rw [RW.ref_.mp rx]; exact decide_eq_false (fun z => nomatch z)
  | tup b => obtain ⟨a, _, rfl, _⟩ := RW.tup_.mp rx; exact decide_eq_false (fun z => nomatch z)
  | lst b => obtain ⟨a, _, rfl, _⟩ := RW.lst_.mp rx; exact decide_eq_false (fun z => nomatch z)
  | scr b => obtain ⟨a, _, rfl, _⟩ := RW.scr_.mp rx; exact decide_eq_false (fun z => nomatch z)
  | dk b c => obtain ⟨a, _, rfl, _⟩ := RW.dk_.mp rx; exact decide_eq_false (fun z => nomatch z)
  | dt b c => obtain ⟨a, _, rfl, _⟩ := RW.dt_.mp rx; exact decide_eq_false (fun z => nomatch z)
  | obj b c d => obtain ⟨a, _, _, rfl, _⟩ := RW.obj_.mp rx; exact decide_eq_false (fun z => nomatch z)
def rIsV (neg : Bool) : R2 := fun x y H Q => (y = .non ∧ Q (.bl (if neg then !decide (x = .non) else decide (x = .non))) H) ∨ ∃ a b : Bool, x = .bl a ∧ y = .bl b ∧ Q (.bl (if neg then !decide (a = b) else decide (a = b))) H
theorem op_isV {X : Cx} : OpR X (compareOp .Is) (rIsV false) := op_isN.or op_isBl
theorem op_notV {X : Cx} : OpR X (compareOp .IsNot) (rIsV true) := op_notN.or op_notBl
theorem ok_is {neg : Bool} : Ok2 T (rIsV neg) (isW neg) := by
  intro F H M x y v u Qw Q S rx ry p k
  cases y with
  | non =>
    rw [RW.non_.mp ry]
    refine .inl ⟨rfl, ?_⟩
    rw [isNon_ok rx]
    cases x <;> exact k.now S (RW.bl_.mpr rfl) p
  | bl b =>
    cases x with
    | bl a =>
      rw [RW.bl_.mp rx, RW.bl_.mp ry]
      exact .inr ⟨a, b, rfl, rfl, k.now S (RW.bl_.mpr rfl) p⟩
    | _ => exact p.elim
  | _ => cases x <;> exact p.elim
def flatW : W → Bool
  | .non => true
  | .bl _ => true
  | .int _ => true
  | .str _ => true
  | _ => false
def eqF : W → W → Bool
  | .non, .non => true
  | .bl a, .bl b => decide (a = b)
  | .bl a, .int b => decide ((if a then 1 else 0) = b)
  | .int a, .bl b => decide (a = if b then 1 else 0)
  | .int a, .int b => decide (a = b)
  | .str a, .str b => decide (a = b)
  | _, _ => false
theorem eqF_ok {F : Addr → Prop} {H : Hp} {x y : W} {v u : V} (rx : RW T F H x v) (ry : RW T F H y u) (fx : flatW x = true) (fy : flatW y = true) : flatV v = true ∧ flatV u = true ∧ eqV v u = eqF x y := by
  cases x <;> first
    | exact absurd fx Bool.false_ne_true
    | (cases y <;> first
        | exact absurd fy Bool.false_ne_true
        | (simp only [RW.int_, RW.str_, RW.bl_, RW.non_] at rx ry
           subst rx ry
           refine ⟨rfl, rfl, ?_⟩
           first
             | rfl
             | (simp only [eqV, eqF, Bool.beq_eq_decide_eq]; done)
             | (simp [eqV, eqF]; done)))
def inF (x : W) (ys : List W) : Bool := ys.any fun y => eqF y x
theorem inF_ok {F : Addr → Prop} {H : Hp} {x : W} {v : V} (rx : RW T F H x v) (fx : flatW x = true) : ∀ {ys : List W} {us : List V}, RWs T F H ys us → ys.all flatW = true → us.all flatV = true ∧ inV v us = inF x ys
  | [], _, r, _ => by rw [RWs.nil_.mp r]; exact ⟨rfl, rfl⟩
  | y :: ys, _, r, h => by
    obtain ⟨u, s, rfl, r1, r2⟩ := RWs.cons_.mp r
    rw [List.all_cons, Bool.and_eq_true] at h
    obtain ⟨h1, h2⟩ := inF_ok rx fx r2 h.2
    obtain ⟨h3, h4, h5⟩ := eqF_ok r1 rx h.1 fx
    refine ⟨by rw [List.all_cons, h3, h1]; rfl, ?_⟩
    unfold inV inF at h2 ⊢
    rw [List.any_cons, List.any_cons, h5, h2]
def inS : W → W → Bool → Prop
  | .str x, .str z, b => ∃ c, x = ⟨#[c]⟩ ∧ b = decide (c ∈ z.cps.toList)
  | _, _, _ => False
def inW (neg : Bool) : W → W → Mh → QW → Prop := fun x y M Q => (∃ ys, sv M y = some ys ∧ flatW x = true ∧ ys.all flatW = true ∧ Q (.bl (if neg then !inF x ys else inF x ys)) M) ∨ ∃ b, inS x y b ∧ Q (.bl (if neg then !b else b)) M
def rInV (K : PySem.W.Frag) (neg : Bool) : R2 := fun x y H Q => rIn K neg x y H Q ∨ ∃ (c : Nat) (z : Str), x = .str ⟨#[c]⟩ ∧ y = .str z ∧ Q (.bl (if neg then !decide (c ∈ z.cps.toList) else decide (c ∈ z.cps.toList))) H
theorem op_inV {X : Cx} : OpR X (compareOp .In) (rInV X.K false) := op_in_seq.or op_in_sign
theorem op_notInV {X : Cx} : OpR X (compareOp .NotIn) (rInV X.K true) := op_notIn_seq.or op_notIn_sign
theorem ok_in {neg : Bool} : Ok2 T (rInV T.K neg) (inW neg) := by
  intro F H M x y v u Qw Q S rx ry p k
  rcases p with ⟨ys, h1, h2, h3, q⟩ | ⟨b, h1, q⟩
  · obtain ⟨a, us, rfl, e, r⟩ := sv_ok S ry h1
    obtain ⟨f1, f2⟩ := inF_ok rx h2 r h3
    obtain ⟨f3, _⟩ := eqF_ok rx rx h2 h2
    exact .inl ⟨a, us, rfl, e, f3, f1, by rw [f2]; exact k.now S (RW.bl_.mpr rfl) q⟩
  · cases x with
    | str x => cases y with
      | str z =>
        obtain ⟨c, rfl, rfl⟩ := h1
        rw [RW.str_.mp rx, RW.str_.mp ry]
        exact .inr ⟨c, z, rfl, rfl, k.now S (RW.bl_.mpr rfl) q⟩
      | _ => exact h1.elim
    | _ => cases y <;> exact h1.elim
def idxW : W → W → Mh → QW → Prop
  | .str z, .int i, M, Q => ∃ c, z.length ≤ sizeLine ∧ atI z.cps.toList i = some c ∧ Q (.str ⟨#[c]⟩) M
  | x, .int i, M, Q => ∃ ws w, sv M x = some ws ∧ atI ws i = some w ∧ Q w M
  | _, _, _, _ => False
theorem atI_ok {F : Addr → Prop} {H : Hp} {ws : List W} {vs : List V} {i : Int} {w : W} (r : RWs T F H ws vs) (h : atI ws i = some w) : ∃ v, atI vs i = some v ∧ RW T F H w v := by
  unfold atI at h ⊢
  rw [← r.length]
  cases e : ixN ws.length i with
  | none => rw [e] at h; cases h
  | some j =>
    rw [e] at h
    exact r.get h
theorem ok_idx : Ok2 T (rIx T.K) idxW := by
  intro F H M x y v u Qw Q S rx ry p k
  have L : ∀ i, y = .int i → (∃ ws w, sv M x = some ws ∧ atI ws i = some w ∧ Qw w M) → rIx T.K v u H Q := fun i ey ⟨ws, w, h1, h2, q⟩ => by
    subst ey
    obtain ⟨a, vs, rfl, e, r⟩ := sv_ok S rx h1
    obtain ⟨v, h3, r3⟩ := atI_ok r h2
    rw [RW.int_.mp ry]
    rcases e with e | e
    · exact .inl ⟨a, vs, i, v, rfl, rfl, e, h3, k.now S r3 q⟩
    · exact .inr (.inl ⟨a, vs, i, v, rfl, rfl, e, h3, k.now S r3 q⟩)
  cases y with
  | int i =>
    cases x with
    | str z =>
      obtain ⟨c, h1, h2, q⟩ := p
      rw [RW.str_.mp rx, RW.int_.mp ry]
      exact .inr (.inr ⟨z, i, c, rfl, rfl, h1, h2, k.now S (RW.str_.mpr rfl) q⟩)
    | _ => exact L i rfl p
  | _ => cases x <;> exact p.elim
def cutW (xs : List W) (lo hi : Option Int) : List W := (xs.drop (HT.sIx xs.length 0 lo)).take (HT.sIx xs.length xs.length hi - HT.sIx xs.length 0 lo)
theorem cutW_ok {F : Addr → Prop} {H : Hp} {ws : List W} {vs : List V} {lo hi : Option Int} (r : RWs T F H ws vs) : RWs T F H (cutW ws lo hi) (cutV vs lo hi) := by
  unfold cutW cutV
  rw [← r.length]
  exact (r.drop _).take _
theorem cutW_whole {ws : List W} {lo hi : Option Int} (h : HT.sIx ws.length 0 lo = 0 ∧ HT.sIx ws.length ws.length hi = ws.length) : cutW ws lo hi = ws := by
  unfold cutW
  rw [h.1, h.2]
  simp
def sliceW (own : Bool) : W → Option Int → Option Int → Mh → QW → Prop
  | .tup ws, lo, hi, M, Q => Q (.tup (cutW ws lo hi)) M
  | .lst ws, lo, hi, M, Q => newL own (cutW ws lo hi) M Q
  | .scr ws, lo, hi, M, Q => newL own (cutW ws lo hi) M Q
  | .ref a, lo, hi, M, Q => ∃ ws, M a = some (.lst ws) ∧ newL own (cutW ws lo hi) M Q
  | _, _, _, _, _ => False
def rSlV (K : PySem.W.Frag) : V → Option Int → Option Int → Hp → VK → Prop := fun x lo hi H Q => rSlA K x lo hi H Q ∨ rSlL K x lo hi H Q
theorem sl_V {X : Cx} : SlR X (rSlV X.K) := sl_tupA.or sl_list
theorem ok_slice {own : Bool} {F : Addr → Prop} {H : Hp} {M : Mh} {x : W} {v : V} {lo hi : Option Int} {Qw : QW} {Q : VK} (S : Sim T F H M) (rx : RW T F H x v) (p : sliceW own x lo hi M Qw) (k : KQ T F H Qw Q) : rSlV T.K v lo hi H Q := by
  cases x with
  | tup ws =>
    obtain ⟨a, vs, rfl, e, r⟩ := RW.tup_.mp rx
    refine .inl ⟨a, vs, rfl, e, fun h => ?_, fun _ => k.newT S (cutW_ok r) p⟩
    rw [← r.length] at h
    have q : Qw (.tup (cutW ws lo hi)) M := p
    rw [cutW_whole h] at q
    exact k.now S (RW.tup_.mpr ⟨a, vs, rfl, e, r⟩) q
  | lst ws =>
    obtain ⟨a, vs, rfl, _, e, r⟩ := RW.lst_.mp rx
    exact .inr ⟨a, vs, rfl, .of e, k.newL S (cutW_ok r) p⟩
  | scr ws =>
    obtain ⟨a, vs, rfl, e, r⟩ := RW.scr_.mp rx
    exact .inr ⟨a, vs, rfl, e.sq, k.newL S (cutW_ok r) p⟩
  | ref a =>
    obtain ⟨ws, h, q⟩ := p
    obtain ⟨_, vs, e, r⟩ := S.lst h
    rw [RW.ref_.mp rx]
    exact .inr ⟨a, vs, rfl, .of e, k.newL S (cutW_ok r) q⟩
  | _ => exact p.elim
end WL
namespace WL
open PySem L2
variable {T : Tb}

def truW (M : Mh) : W → Bool → Prop
  | .bl c, b => b = c
  | .non, b => b = false
  | .int i, b => b = (i != 0)
  | .str y, b => y.length ≤ sizeLine ∧ b = ((y.length : Int) != 0)
  | x, b => ∃ ws, sv M x = some ws ∧ b = !ws.isEmpty
theorem isEmpty_ws {F : Addr → Prop} {H : Hp} {ws : List W} {vs : List V} (r : RWs T F H ws vs) : (!vs.isEmpty) = !ws.isEmpty := by
  have h := r.length
  cases ws <;> cases vs <;> simp_all
theorem tru_w {F : Addr → Prop} {H : Hp} {M : Mh} {x : W} {v : V} {b : Bool} (S : Sim T F H M) (rx : RW T F H x v) (h : truW M x b) : TruV T.K v H b := by
  have L : (∃ ws, sv M x = some ws ∧ b = !ws.isEmpty) → TruV T.K v H b := fun ⟨ws, h1, h2⟩ => by
    obtain ⟨a, vs, rfl, e, r⟩ := sv_ok S rx h1
    rcases e with e | e
    · exact .inl ⟨vs, e, by rw [isEmpty_ws r]; exact h2⟩
    · exact .inr (.inl ⟨vs, e, by rw [isEmpty_ws r]; exact h2⟩)
  cases x <;> first
    | exact L h
    | (simp only [RW.int_, RW.str_, RW.bl_, RW.non_] at rx
       subst rx
       exact h)

inductive BI where
  | len | tup | list | sum | int | str | sorted | max2 | min2 | maxL | minL
  deriving DecidableEq
def BI.name : BI → Str
  | .len => "len" | .tup => "tuple" | .list => "list" | .sum => "sum" | .int => "int" | .str => "str" | .sorted => "sorted" | .max2 => "max" | .min2 => "min" | .maxL => "max" | .minL => "min"
def BI.val : BI → Value
  | .len => .builtin "len" | .tup => .type "tuple" | .list => .type "list" | .sum => .builtin "sum" | .int => .type "int" | .str => .type "str" | .sorted => .builtin "sorted"
  | .max2 => .builtin "max" | .min2 => .builtin "min" | .maxL => .builtin "max" | .minL => .builtin "min"
def BI.r (K : PySem.W.Frag) : BI → List V → Hp → VK → Prop
  | .len => fun xs H Q => ∃ x n, xs = [x] ∧ LenV K x H n ∧ Q (.int n) H
  | .tup => fun xs H Q => ∃ p ys, xs = [.ref p] ∧ ((SqL K H p ys ∧ ∀ l, H l = none → Q (.ref l) (upd H l (.tup ys))) ∨ (SqT K H p ys ∧ Q (.ref p) H))
  | .list => fun xs H Q => ∃ p ys, xs = [.ref p] ∧ (SqL K H p ys ∨ SqT K H p ys) ∧ ∀ l, H l = none → Q (.ref l) (upd H l (.lst ys))
  | .sum => rSum K
  | .int => fun xs H Q => ((∃ i, xs = [.int i] ∧ Q (.int i) H) ∨ ∃ k, xs = [.bl k] ∧ Q (.int (if k then 1 else 0)) H) ∨ (∃ a n, xs = [.str a] ∧ PySem.intText? a = some n ∧ a.length ≤ 640 ∧ Q (.int n) H)
  | .str => fun xs H Q => (∃ i, xs = [.int i] ∧ i.natAbs.log2 < 1920 ∧ Q (.str (toString i)) H) ∨ ∃ a, xs = [.str a] ∧ Q (.str a) H
  | .sorted => rSortedI K
  | .max2 => fun xs H Q => ∃ i j, xs = [.int i, .int j] ∧ Q (.int (if j > i then j else i)) H
  | .min2 => fun xs H Q => ∃ i j, xs = [.int i, .int j] ∧ Q (.int (if j < i then j else i)) H
  | .maxL => rMax K
  | .minL => rMin K
theorem BI.ok {X : Cx} (hc : X.calm = true) : ∀ b : BI, CallR X b.val (b.r X.K)
  | .len => call_len
  | .tup => call_tuple_of
  | .list => call_list_of
  | .sum => cr_sum hc
  | .int => call_int1.or call_int_str
  | .str => call_str_int.or SkE.call_str_str
  | .sorted => cr_sortedI
  | .max2 => call_max2 hc
  | .min2 => call_min2 hc
  | .maxL => cr_max hc
  | .minL => cr_min hc
theorem BI.boot : ∀ b : BI, bootBuiltins b.name = some b.val
  | .len => by decide +kernel
  | .tup => by decide +kernel
  | .list => by decide +kernel
  | .sum => by decide +kernel
  | .int => by decide +kernel
  | .str => by decide +kernel
  | .sorted => by decide +kernel
  | .max2 => by decide +kernel
  | .min2 => by decide +kernel
  | .maxL => by decide +kernel
  | .minL => by decide +kernel
theorem BI.names (b : BI) : b.name ≠ "__name__" ∧ (b.name == ("__debug__" : Str)) = false := by cases b <;> exact ⟨by decide, by decide⟩
def lenW : W → Mh → QW → Prop
  | .str z, M, Q => z.length ≤ sizeLine ∧ Q (.int z.length) M
  | x, M, Q => ∃ ws, sv M x = some ws ∧ Q (.int ws.length) M
def tupW : W → Mh → QW → Prop := fun x M Q => ∃ ws, sv M x = some ws ∧ Q (.tup ws) M
def listW (own : Bool) : W → Mh → QW → Prop := fun x M Q => ∃ ws, sv M x = some ws ∧ newL own ws M Q
def intsOf (M : Mh) (x : W) (ns : List Int) : Prop := match x with
  | .lst ws => ws = ns.map W.int
  | .scr ws => ws = ns.map W.int
  | .ref a => M a = some (.lst (ns.map W.int))
  | _ => False
theorem intsOf_ok {F : Addr → Prop} {H : Hp} {M : Mh} {x : W} {v : V} {ns : List Int} (S : Sim T F H M) (rx : RW T F H x v) (h : intsOf M x ns) : ∃ a, v = .ref a ∧ SqL T.K H a (ns.map V.int) := by
  cases x with
  | lst ws =>
    obtain rfl : ws = ns.map W.int := h
    obtain ⟨a, vs, rfl, _, e, r⟩ := RW.lst_.mp rx
    rw [r.ints] at e
    exact ⟨a, rfl, .of e⟩
  | scr ws =>
    obtain rfl : ws = ns.map W.int := h
    obtain ⟨a, vs, rfl, e, r⟩ := RW.scr_.mp rx
    rw [r.ints] at e
    exact ⟨a, rfl, e.sq⟩
  | ref a =>
    obtain ⟨_, vs, e, r⟩ := S.lst (ws := ns.map W.int) h
    rw [r.ints] at e
    exact ⟨a, RW.ref_.mp rx, .of e⟩
  | _ => exact h.elim
def sumW : W → Mh → QW → Prop := fun x M Q => ∃ ns, intsOf M x ns ∧ Q (.int ns.sum) M
def intW : W → Mh → QW → Prop
  | .int i, M, Q => Q (.int i) M
  | .bl b, M, Q => Q (.int (if b then 1 else 0)) M
  | .str a, M, Q => ∃ n, PySem.intText? a = some n ∧ a.length ≤ 640 ∧ Q (.int n) M
  | _, _, _ => False
def strW : W → Mh → QW → Prop
  | .int i, M, Q => i.natAbs.log2 < 1920 ∧ Q (.str (toString i)) M
  | .str a, M, Q => Q (.str a) M
  | _, _, _ => False
def sortedW (own : Bool) : W → Mh → QW → Prop := fun x M Q => ∃ ns, intsOf M x ns ∧ ∀ ns' : List Int, ns'.Perm ns → ns'.Pairwise (· ≤ ·) → newL own (ns'.map W.int) M Q
def maxW : W → Mh → QW → Prop := fun x M Q => ∃ ns, intsOf M x ns ∧ 0 < ns.length ∧ ∀ m, m ∈ ns → (∀ y, y ∈ ns → y ≤ m) → Q (.int m) M
def minW : W → Mh → QW → Prop := fun x M Q => ∃ ns, intsOf M x ns ∧ 0 < ns.length ∧ ∀ m, m ∈ ns → (∀ y, y ∈ ns → m ≤ y) → Q (.int m) M
def oneW (p : W → Mh → QW → Prop) : List W → Mh → QW → Prop
  | [x], M, Q => p x M Q
  | _, _, _ => False
def twoW (p : W → W → Mh → QW → Prop) : List W → Mh → QW → Prop
  | [x, y], M, Q => p x y M Q
  | _, _, _ => False
def BI.w (own : Bool) : BI → List W → Mh → QW → Prop
  | .len => oneW lenW
  | .tup => oneW tupW
  | .list => oneW (listW own)
  | .sum => oneW sumW
  | .int => oneW intW
  | .str => oneW strW
  | .sorted => oneW (sortedW own)
  | .max2 => twoW (intsW fun i j Q M => Q (.int (if j > i then j else i)) M)
  | .min2 => twoW (intsW fun i j Q M => Q (.int (if j < i then j else i)) M)
  | .maxL => oneW maxW
  | .minL => oneW minW
theorem ok_one {r : List V → Hp → VK → Prop} {p : W → Mh → QW → Prop} (h : Ok1 T (fun v H Q => r [v] H Q) p) : OkN T r (oneW p) := by
  intro F H M xs vs Qw Q S rx q k
  match xs with
  | [x] =>
    obtain ⟨v, s, rfl, r1, r2⟩ := RWs.cons_.mp rx
    rw [RWs.nil_.mp r2]
    exact h F H M x v Qw Q S r1 q k
  | [] => exact q.elim
  | _ :: _ :: _ => exact q.elim
theorem ok_two {r : List V → Hp → VK → Prop} {p : W → W → Mh → QW → Prop} (h : Ok2 T (fun v u H Q => r [v, u] H Q) p) : OkN T r (twoW p) := by
  intro F H M xs vs Qw Q S rx q k
  match xs with
  | [x, y] =>
    obtain ⟨v, s, rfl, r1, r2⟩ := RWs.cons_.mp rx
    obtain ⟨u, s, rfl, r2, r3⟩ := RWs.cons_.mp r2
    rw [RWs.nil_.mp r3]
    exact h F H M x y v u Qw Q S r1 r2 q k
  | [] => exact q.elim
  | [_] => exact q.elim
  | _ :: _ :: _ :: _ => exact q.elim
theorem BI.okN {own : Bool} : ∀ b : BI, OkN T (b.r T.K) (b.w own)
  | .len => ok_one fun F H M x v Qw Q S rx p k => by
    have L : (∃ ws, sv M x = some ws ∧ Qw (.int ws.length) M) → BI.r T.K .len [v] H Q := fun ⟨ws, h1, q⟩ => by
      obtain ⟨a, vs, rfl, e, r⟩ := sv_ok S rx h1
      refine ⟨.ref a, vs.length, rfl, ?_, by rw [← r.length]; exact k.now S (RW.int_.mpr rfl) q⟩
      rcases e with e | e
      · exact .inl ⟨vs, e, rfl⟩
      · exact .inr ⟨vs, e, rfl⟩
    cases x with
    | str z =>
      rw [RW.str_.mp rx]
      exact ⟨.str z, z.length, rfl, ⟨p.1, rfl⟩, k.now S (RW.int_.mpr rfl) p.2⟩
    | _ => exact L p
  | .tup => ok_one fun F H M x v Qw Q S rx ⟨ws, h1, q⟩ k => by
    obtain ⟨a, vs, rfl, e, r⟩ := sv_ok S rx h1
    rcases e with e | e
    · exact ⟨a, vs, rfl, .inl ⟨e, k.newT S r q⟩⟩
    · exact ⟨a, vs, rfl, .inr ⟨e, k.now S (RW.tup_.mpr ⟨a, vs, rfl, e, r⟩) q⟩⟩
  | .list => ok_one fun F H M x v Qw Q S rx ⟨ws, h1, q⟩ k => by
    obtain ⟨a, vs, rfl, e, r⟩ := sv_ok S rx h1
    exact ⟨a, vs, rfl, e, k.newL S r q⟩
  | .sum => ok_one fun F H M x v Qw Q S rx ⟨ns, h1, q⟩ k => by
    obtain ⟨a, rfl, e⟩ := intsOf_ok S rx h1
    exact ⟨a, ns, rfl, e, k.now S (RW.int_.mpr rfl) q⟩
  | .int => ok_one fun F H M x v Qw Q S rx p k => by
    cases x with
    | int i => rw [RW.int_.mp rx]; exact .inl (.inl ⟨i, rfl, k.now S (RW.int_.mpr rfl) p⟩)
    | bl i => rw [RW.bl_.mp rx]; exact .inl (.inr ⟨i, rfl, k.now S (RW.int_.mpr rfl) p⟩)
    | str i =>
      obtain ⟨n, h1, h2, q⟩ := p
      rw [RW.str_.mp rx]; exact .inr ⟨i, n, rfl, h1, h2, k.now S (RW.int_.mpr rfl) q⟩
    | _ => exact p.elim
  | .str => ok_one fun F H M x v Qw Q S rx p k => by
    cases x with
    | int i => rw [RW.int_.mp rx]; exact .inl ⟨i, rfl, p.1, k.now S (RW.str_.mpr rfl) p.2⟩
    | str i => rw [RW.str_.mp rx]; exact .inr ⟨i, rfl, k.now S (RW.str_.mpr rfl) p⟩
    | _ => exact p.elim
  | .sorted => ok_one fun F H M x v Qw Q S rx ⟨ns, h1, q⟩ k => by
    obtain ⟨a, rfl, e⟩ := intsOf_ok S rx h1
    exact ⟨a, ns, rfl, e, fun ns' p h2 h3 hp => k.newL S (RWs.ofInts ns') (q ns' h2 h3) p hp⟩
  | .max2 => ok_two (ok_ints fun F H M i j Qw Q S q k => ⟨i, j, rfl, k.now S (RW.int_.mpr rfl) q⟩)
  | .min2 => ok_two (ok_ints fun F H M i j Qw Q S q k => ⟨i, j, rfl, k.now S (RW.int_.mpr rfl) q⟩)
  | .maxL => ok_one fun F H M x v Qw Q S rx ⟨ns, h1, h2, q⟩ k => by
    obtain ⟨a, rfl, e⟩ := intsOf_ok S rx h1
    exact ⟨a, ns, rfl, e, h2, fun m hm hy => k.now S (RW.int_.mpr rfl) (q m hm hy)⟩
  | .minL => ok_one fun F H M x v Qw Q S rx ⟨ns, h1, h2, q⟩ k => by
    obtain ⟨a, rfl, e⟩ := intsOf_ok S rx h1
    exact ⟨a, ns, rfl, e, h2, fun m hm hy => k.now S (RW.int_.mpr rfl) (q m hm hy)⟩

inductive BM where
  | append | extend | pop | popAt | clear | join | split
  deriving DecidableEq
def BM.name : BM → Str
  | .append => "append" | .extend => "extend" | .pop => "pop" | .popAt => "pop" | .clear => "clear" | .join => "join" | .split => "split"
def BM.cls : BM → String
  | .append => "list" | .extend => "list" | .pop => "list" | .popAt => "list" | .clear => "list" | .join => "str" | .split => "str"
def BM.id : BM → String
  | .append => "list.append" | .extend => "list.extend" | .pop => "list.pop" | .popAt => "list.pop" | .clear => "list.clear" | .join => "str.join" | .split => "str.split"
def BM.r (K : PySem.W.Frag) : BM → V → List V → Hp → VK → Prop
  | .append => rAppend
  | .extend => rExtend
  | .pop => rPop
  | .popAt => rPopAt
  | .clear => rClear
  | .join => fun x xs H Q => ∃ a p, ∃ ys : List Str, x = .str a ∧ xs = [.ref p] ∧ (SqL K H p (ys.map V.str) ∨ SqT K H p (ys.map V.str)) ∧
    (ys.map (·.length)).sum + ys.length * a.length ≤ 16777216 ∧ Q (.str (Txt.join a ys)) H
  | .split => fun x xs H Q => ∃ a b, x = .str a ∧ xs = [.str b] ∧ (b.length == 0) = false ∧ a.length + 2 ≤ sizeLine ∧ rNewStrs (Txt.split a b) H Q
theorem BM.ok {X : Cx} : ∀ b : BM, MtR X b.id (b.r X.K)
  | .append => mt_append
  | .extend => mt_extend
  | .pop => mt_pop
  | .popAt => mt_popAt
  | .clear => mt_clear
  | .join => mt_join
  | .split => mt_split
theorem BM.plain : ∀ b : BM, PlainAttrs b.cls
  | .append => PySem.F.plainAttrs_list
  | .extend => PySem.F.plainAttrs_list
  | .pop => PySem.F.plainAttrs_list
  | .popAt => PySem.F.plainAttrs_list
  | .clear => PySem.F.plainAttrs_list
  | .join => PySem.F.plainAttrs_str
  | .split => PySem.F.plainAttrs_str
theorem BM.slot : ∀ b : BM, Slot b.cls b.name b.id
  | .append => PySem.F.slot_list_append
  | .extend => PySem.F.slot_list_extend
  | .pop => PySem.F.slot_list_pop
  | .popAt => PySem.F.slot_list_pop
  | .clear => PySem.F.slot_list_clear
  | .join => PySem.F.slot_str_join
  | .split => PySem.F.slot_str_split
theorem BM.ty : ∀ b : BM, typeOf (.builtin b.id) = pure (.type "method_descriptor")
  | .append => PySem.F.type_list_append
  | .extend => PySem.F.type_list_extend
  | .pop => PySem.F.type_list_pop
  | .popAt => PySem.F.type_list_pop
  | .clear => PySem.F.type_list_clear
  | .join => PySem.F.type_str_join
  | .split => PySem.F.type_str_split
def appendW : W → List W → Mh → QW → Prop
  | .ref a, [y], M, Q => ∃ ws, M a = some (.lst ws) ∧ ws.length < sizeLine ∧ Q .non (mup M a (.lst (ws ++ [y])))
  | _, _, _, _ => False
def extendW : W → List W → Mh → QW → Prop
  | .ref a, [y], M, Q => ∃ ws us, M a = some (.lst ws) ∧ lv M y = some us ∧ ws.length + us.length ≤ sizeLine ∧ Q .non (mup M a (.lst (ws ++ us)))
  | _, _, _, _ => False
def popW : W → List W → Mh → QW → Prop
  | .ref a, [], M, Q => ∃ ws y, M a = some (.lst ws) ∧ ws[ws.length - 1]? = some y ∧ Q y (mup M a (.lst ws.dropLast))
  | _, _, _, _ => False
def popAtW : W → List W → Mh → QW → Prop
  | .ref a, [.int i], M, Q => ∃ ws k y, M a = some (.lst ws) ∧ -(2 ^ 63) ≤ i ∧ i < 2 ^ 63 ∧ seqIndex? i ws.length = some k ∧ ws[k]? = some y ∧ Q y (mup M a (.lst (ws.eraseIdx k)))
  | _, _, _, _ => False
def clearW : W → List W → Mh → QW → Prop
  | .ref a, [], M, Q => ∃ ws, M a = some (.lst ws) ∧ Q .non (mup M a (.lst []))
  | _, _, _, _ => False
def joinW : W → List W → Mh → QW → Prop
  | .str a, [y], M, Q => ∃ ys : List Str, sv M y = some (ys.map W.str) ∧ (ys.map (·.length)).sum + ys.length * a.length ≤ 16777216 ∧ Q (.str (Txt.join a ys)) M
  | _, _, _, _ => False
def splitW (own : Bool) : W → List W → Mh → QW → Prop
  | .str a, [.str b], M, Q => (b.length == 0) = false ∧ a.length + 2 ≤ sizeLine ∧ newL own ((Txt.split a b).map W.str) M Q
  | _, _, _, _ => False
def BM.w (own : Bool) : BM → W → List W → Mh → QW → Prop
  | .append => appendW
  | .extend => extendW
  | .pop => popW
  | .popAt => popAtW
  | .clear => clearW
  | .join => joinW
  | .split => splitW own
def BM.recv (M : Mh) (b : BM) : W → Prop
  | .ref a => b.cls = "list" ∧ ∃ ws, M a = some (.lst ws)
  | .str _ => b.cls = "str"
  | _ => False
theorem BM.recv_ok {F : Addr → Prop} {H : Hp} {M : Mh} {b : BM} {x : W} {v : V} (S : Sim T F H M) (rx : RW T F H x v) (h : b.recv M x) : tyV T.K b.cls v H := by
  cases x with
  | ref a =>
    obtain ⟨h1, ws, h2⟩ := h
    obtain ⟨_, vs, e, _⟩ := S.lst h2
    rw [RW.ref_.mp rx]
    exact .inl ⟨h1, vs, .of e⟩
  | str z => rw [RW.str_.mp rx]; exact h
  | _ => exact h.elim
theorem dropLast_ok {F : Addr → Prop} {H : Hp} : ∀ {ws : List W} {vs : List V}, RWs T F H ws vs → RWs T F H ws.dropLast vs.dropLast := fun {ws vs} r => by
  rw [List.dropLast_eq_take, List.dropLast_eq_take, ← r.length]
  exact r.take _
theorem BM.okM {own : Bool} : ∀ b : BM, OkM T (b.r T.K) (b.w own)
  | .append => fun F H M x xs v vs Qw Q S rx rs p k => by
    match x, xs, p with
    | .ref a, [y], ⟨ws, h1, h2, q⟩ =>
      obtain ⟨u, s, rfl, r1, r2⟩ := RWs.cons_.mp rs
      rw [RWs.nil_.mp r2, RW.ref_.mp rx]
      obtain ⟨_, us, e, r⟩ := S.lst h1
      obtain ⟨x1, S1⟩ := S.put (o := .lst (us ++ [u])) (u := .lst (ws ++ [y])) h1 ⟨_, rfl, r.append (.cons r1 .nil)⟩
      exact ⟨a, us, u, rfl, rfl, e, by rw [← r.length]; exact h2, k _ _ _ _ _ x1 (RW.non_.mpr rfl) S1 q⟩
  | .extend => fun F H M x xs v vs Qw Q S rx rs p k => by
    match x, xs, p with
    | .ref a, [y], ⟨ws, zs, h1, h3, h2, q⟩ =>
      obtain ⟨u, s, rfl, r1, r2⟩ := RWs.cons_.mp rs
      rw [RWs.nil_.mp r2, RW.ref_.mp rx]
      obtain ⟨_, us, e, r⟩ := S.lst h1
      obtain ⟨b, ys, rfl, e2, r3⟩ := lv_ok S r1 h3
      obtain ⟨x1, S1⟩ := S.put (o := .lst (us ++ ys)) (u := .lst (ws ++ zs)) h1 ⟨_, rfl, r.append r3⟩
      exact ⟨a, b, us, ys, rfl, rfl, e, e2, by rw [← r.length, ← r3.length]; exact h2, k _ _ _ _ _ x1 (RW.non_.mpr rfl) S1 q⟩
  | .pop => fun F H M x xs v vs Qw Q S rx rs p k => by
    match x, xs, p with
    | .ref a, [], ⟨ws, y, h1, h2, q⟩ =>
      rw [RWs.nil_.mp rs, RW.ref_.mp rx]
      obtain ⟨_, us, e, r⟩ := S.lst h1
      obtain ⟨u, h3, r3⟩ := r.get h2
      obtain ⟨x1, S1⟩ := S.put (o := .lst us.dropLast) (u := .lst ws.dropLast) h1 ⟨_, rfl, dropLast_ok r⟩
      exact ⟨a, us, u, rfl, rfl, e, by rw [← r.length]; exact h3, k _ _ _ _ _ x1 (r3.ext x1) S1 q⟩
  | .popAt => fun F H M x xs v vs Qw Q S rx rs p k => by
    match x, xs, p with
    | .ref a, [.int i], ⟨ws, j, y, h1, h4, h5, h6, h2, q⟩ =>
      obtain ⟨u0, s, rfl, r1, r2⟩ := RWs.cons_.mp rs
      rw [RWs.nil_.mp r2, RW.ref_.mp rx, RW.int_.mp r1]
      obtain ⟨_, us, e, r⟩ := S.lst h1
      obtain ⟨u, h3, r3⟩ := r.get h2
      obtain ⟨x1, S1⟩ := S.put (o := .lst (us.eraseIdx j)) (u := .lst (ws.eraseIdx j)) h1 ⟨_, rfl, r.erase j⟩
      exact ⟨a, us, i, j, u, rfl, rfl, e, h4, h5, by rw [← r.length]; exact h6, h3, k _ _ _ _ _ x1 (r3.ext x1) S1 q⟩
  | .clear => fun F H M x xs v vs Qw Q S rx rs p k => by
    match x, xs, p with
    | .ref a, [], ⟨ws, h1, q⟩ =>
      rw [RWs.nil_.mp rs, RW.ref_.mp rx]
      obtain ⟨_, us, e, r⟩ := S.lst h1
      obtain ⟨x1, S1⟩ := S.put (o := .lst []) (u := .lst []) h1 ⟨_, rfl, .nil⟩
      exact ⟨a, us, rfl, rfl, e, k _ _ _ _ _ x1 (RW.non_.mpr rfl) S1 q⟩
  | .join => fun F H M x xs v vs Qw Q S rx rs p k => by
    match x, xs, p with
    | .str a, [y], ⟨ys, h1, h2, q⟩ =>
      obtain ⟨u, s, rfl, r1, r2⟩ := RWs.cons_.mp rs
      rw [RWs.nil_.mp r2, RW.str_.mp rx]
      obtain ⟨b, us, rfl, e, r⟩ := sv_ok S r1 h1
      rw [r.strs_] at e
      exact ⟨a, b, ys, rfl, rfl, e, h2, k.now S (RW.str_.mpr rfl) q⟩
  | .split => fun F H M x xs v vs Qw Q S rx rs p k => by
    match x, xs, p with
    | .str a, [.str b], ⟨h1, h2, q⟩ =>
      obtain ⟨u, s, rfl, r1, r2⟩ := RWs.cons_.mp rs
      rw [RWs.nil_.mp r2, RW.str_.mp rx, RW.str_.mp r1]
      exact ⟨a, b, rfl, rfl, h1, h2, k.newL S (RWs.ofStrs _) q⟩
end WL
namespace WL
open PySem PySem.Spec PyProof.Rows L2

section zipTS
def ItzS (K : PySem.W.Frag) (a : Addr) (n : Nat) (x : Str) : It :=
  ⟨fun i H => ∃ (xs : List V) (v : V), SqT K H a xs ∧ xs.length = n ∧ xs[i]? = some v ∧ i < x.cps.size,
    fun i H v H' => ∃ p y c, v = .ref p ∧ H p = none ∧ H' = upd H p (.tup [y, .str ⟨#[c]⟩]) ∧ (∀ xs, SqT K H a xs → xs[i]? = some y) ∧ x.cps[i]? = some c,
    fun i H => ∃ xs : List V, SqT K H a xs ∧ xs.length = n ∧ (n ≤ i ∨ x.cps.size ≤ i)⟩
structure SepTS (z TI TO i1 i2 a : Addr) : Prop where
  s : ZipSep2 z TI TO i1 i2 [i1, a] [i2]
  ai : a ≠ i1
theorem turn_zipTS {P : Program} {w : World} {K : PySem.W.Frag} {elts : List Expr} {kk : Nat} {tpos : Pos} {a z TI TO i1 i2 : Addr} {n : Nat} {x : Str} {tk0 : Tok} (D : SepTS z TI TO i1 i2 a) :
    Turn P w K (.Tuple elts kk tpos) (ItzS K a n x) [z, TI, TO, i1, i2] z (fun i h => (i ≤ n ∧ i ≤ x.cps.size) ∧ IsZip h z TI TO .none ∧ IsTupOf2 h TI (.ref i1) (.ref i2) ∧ (∃ u v, IsTupOf2 h TO u v) ∧ h.IsTupleIter i1 a i ∧ h.IsStrIter i2 (strIterType x) x tk0 i) where
  mem := by simp
  obj := fun i h st c hc => by
    obtain ⟨_, hz, hTI, ⟨x, y, hTO⟩, ⟨o1, e1, _, d1⟩, ⟨o2, e2, _, d2⟩⟩ := st
    have e' : c = z ∨ c = TI ∨ c = TO ∨ c = i1 ∨ c = i2 := by simpa using hc
    rcases e' with q | q | q | q | q
    · rw [q]; exact ⟨_, hz, fun v q => nomatch q⟩
    · rw [q]; exact ⟨_, hTI, fun v q => nomatch q⟩
    · rw [q]; exact ⟨_, hTO, fun v q => nomatch q⟩
    · rw [q]; exact ⟨o1, e1, fun v q => by rw [d1] at q; cases q⟩
    · rw [q]; exact ⟨o2, e2, fun v q => by rw [d2] at q; cases q⟩
  keep := fun i h h' st k => by
    obtain ⟨hl, hz, hTI, ⟨u, v, hTO⟩, h1, ⟨o, ho, r⟩⟩ := st
    exact ⟨hl, k z (by simp) _ hz, k TI (by simp) _ hTI, ⟨u, v, k TO (by simp) _ hTO⟩, h1.at fun o q => k i1 (by simp) o q, ⟨o, k i2 (by simp) o ho, r⟩⟩
  item := by
    intro X hP hw hK hc i pins s σ H E I hf st hg
    subst hP hw hK
    obtain ⟨hl, hz, hTI, ⟨x0, y0, hTO⟩, h1, h2⟩ := st
    obtain ⟨xs, v, hqx, hn, hx, hi⟩ := hg
    obtain ⟨its, rv, p, _⟩ := I.tuple hqx
    obtain ⟨u, hu, ru⟩ := rv.get hx
    have hzl : z < s.heap.objs.size := Heap.lt_size hz
    have l1 := rv.length
    have hi1 : i < its.toArray.size := by
      have := (List.getElem?_eq_some_iff.mp hu).1
      simpa using this
    refine wpAny_pyNext_zipD2_item D.s (Draws.tuple (A := X.A.in1) (by exact I.ok.hd hc) i1 a D.ai its.toArray) (Draws.text (A := X.A.in1) (by exact I.ok.hd hc) i2 x tk0) hz hTI hTO ⟨h1, p⟩ h2 hi1 hi
      fun u1 u2 h' tk p1 p2 z' TO' d1 d2 hT hsz hk => ?_
    obtain ⟨c, t2, hc2, rfl⟩ := p2
    have e1 : u1 = u := by
      have q1 : its.toArray[i]? = some u1 := p1
      have q2 : its.toArray[i]? = some u := by simpa using hu
      rw [q1] at q2; exact Option.some.inj q2
    subst e1
    refine ⟨_, rfl, wpAny_letOwnedTupleGo_zip (s := { s with heap := h', toks := tk }) z' fun h'' z'' sb => ?_⟩
    have hT2 : h''.get? s.heap.objs.size = some { cls := .type "tuple", data := .seq #[u1, .str ⟨#[c]⟩ t2] } := (sb.2 _ (Nat.ne_of_gt hzl)).trans hT
    have new : ObjOk X.prog X.w (upd H s.heap.objs.size (.tup [v, .str ⟨#[c]⟩])) h'' s.heap.objs.size (.tup [v, .str ⟨#[c]⟩]) :=
      ⟨by show 2 ≤ sizeLine; decide, [u1, .str ⟨#[c]⟩ t2], .cons ru (.cons ⟨_, rfl⟩ .nil), ⟨_, hT2, rfl, _, rfl⟩⟩
    have I1 : Inv X pins σ (upd H s.heap.objs.size (.tup [v, .str ⟨#[c]⟩])) { s with heap := h'', toks := tk } :=
      I.turnedNew (t' := tk) (ch := [z, TI, TO, i1, i2]) (fun c o hb q => (sb.2 c (fun q' => hb (by simp [q']))).trans (hk c o (fun q' => hb (by simp [q'])) (fun q' => hb (by simp [q'])) (fun q' => hb (by simp [q'])) (fun q' => hb (by simp [q'])) q)) hf (Nat.le_refl _) new
    have hle : i + 1 ≤ n := by
      have := (List.getElem?_eq_some_iff.mp hx).1
      omega
    refine ⟨.ref s.heap.objs.size, _, I1, rfl, ⟨_, v, c, rfl, I.hok.fresh (Nat.le_refl _), rfl, fun l hl => by rw [I.tuple_inj hl hqx]; exact hx, hc2⟩, ⟨⟨hle, hi⟩, z'', ?_, ⟨u1, .str ⟨#[c]⟩ t2, ?_⟩, ?_, ?_⟩, fun c hcm => ?_⟩
    · exact (sb.2 _ D.s.TIz).trans (hk _ _ D.s.TIz D.s.TITO D.s.TIi1 D.s.TIi2 hTI)
    · exact (sb.2 _ D.s.TOz).trans TO'
    · exact d1.1.at fun o q => (sb.2 _ (Ne.symm D.s.zi1)).trans q
    · obtain ⟨o, ho, r⟩ := d2
      exact ⟨o, (sb.2 _ (Ne.symm D.s.zi2)).trans ho, r⟩
    · have hlt : c < s.heap.objs.size := by
        have e' : c = z ∨ c = TI ∨ c = TO ∨ c = i1 ∨ c = i2 := by simpa using hcm
        rcases e' with q | q | q | q | q
        · rw [q]; exact hzl
        · rw [q]; exact Heap.lt_size hTI
        · rw [q]; exact Heap.lt_size hTO
        · rw [q]; obtain ⟨_, e1, _⟩ := h1; exact Heap.lt_size e1
        · rw [q]; obtain ⟨_, e2, _⟩ := h2; exact Heap.lt_size e2
      rw [upd_ne (Nat.ne_of_lt hlt)]
      exact (hf c hcm).1
  done := by
    intro X hP hw hK hc i pins s σ H E I hf st hg
    subst hP hw hK
    obtain ⟨hl, hz, hTI, ⟨x0, y0, hTO⟩, h1, h2⟩ := st
    obtain ⟨xs, hqx, hn, hend⟩ := hg
    obtain ⟨its, rv, p, _⟩ := I.tuple hqx
    have l1 := rv.length
    refine wpAny_pyNext_zipD2_end D.s (Draws.tuple (A := X.A.in1) (by exact I.ok.hd hc) i1 a D.ai its.toArray) (Draws.text (A := X.A.in1) (by exact I.ok.hd hc) i2 x tk0) hz hTI hTO ⟨h1, p⟩ h2
      (by rw [List.size_toArray]; omega) hl.2 (by rw [List.size_toArray]; omega) fun h' tk hk => ⟨rfl, I.turnedL (t' := tk) (ch := [z, TI, TO, i1, i2]) (fun c o hb q =>
      hk c o (fun q' => hb (by simp [q'])) (fun q' => hb (by simp [q'])) (fun q' => hb (by simp [q'])) (fun q' => hb (by simp [q'])) q) hf⟩
  self := fun A i s Q E st h => wpAny_pyIter_zip st.2.1 h
def iZipS (K : PySem.W.Frag) (ta : TA) : TI := fun σ H R => ta σ H fun vs H1 => ∃ a x xs, vs = [.ref a, .str x] ∧ SqT K H1 a xs ∧ R (ItzS K a xs.length x) H1
theorem pi_zipS {X : Cx} {e e2 : Expr} {ta : TA} {p pos tpos : Pos} {elts : List Expr} {kk : Nat} (hg : Gl X "zip") (hm : X.mg "zip" = none) (ha : PA X [e, e2] ta)
    (hs : starEach [e, e2] X.env = (false, eval e X.env) :: starEach [e2] X.env) (hpl : (backTo pos (starEach [e2] X.env)).any (·.1) = false) :
    PI X (.Tuple elts kk tpos) (.Call (.Name "zip" p) [e, e2] [] pos) (iZipS X.K ta) := by
  refine ⟨fun pins s σ H R I h => ?_⟩
  refine Call_ (ld_blt I hg hm PyProof.Rows.boot_zip (PyProof.Rows.callWith_type1 (thn (ha.run pos pins s σ H _ I h) fun us s1 ⟨vs, H1, I1, r1, q1⟩ => ?_) hs hpl))
  obtain ⟨a, x, xs, ex, hqx, q⟩ := q1
  subst ex
  cases r1 with
  | cons r rr =>
    cases rr with
    | cons r' rr =>
      cases rr
      cases r
      obtain ⟨t, rfl⟩ := r'
      have fresh5 : ∀ c, c ∈ [s1.heap.objs.size + 4, s1.heap.objs.size + 2, s1.heap.objs.size + 3, s1.heap.objs.size, s1.heap.objs.size + 1] → FpOk X pins H1 c := fun c hcm => by
        have e' : c = s1.heap.objs.size + 4 ∨ c = s1.heap.objs.size + 2 ∨ c = s1.heap.objs.size + 3 ∨ c = s1.heap.objs.size ∨ c = s1.heap.objs.size + 1 := by simpa using hcm
        have hle : s1.heap.objs.size ≤ c := by
          rcases e' with z | z | z | z | z
          · rw [z]; exact Nat.le_add_right _ _
          · rw [z]; exact Nat.le_add_right _ _
          · rw [z]; exact Nat.le_add_right _ _
          · rw [z]; exact Nat.le_refl _
          · rw [z]; exact Nat.le_add_right _ _
        exact I1.fpOk hle (I1.hok.fresh hle)
      obtain ⟨its, rv, p1, _⟩ := I1.tuple hqx
      obtain ⟨o1, ho1, _⟩ := id p1
      have hal : a < s1.heap.objs.size := Heap.lt_size ho1
      refine zip_begins2 (begins_tuple a its.toArray) (begins_text x t) p1 trivial fun h' hz hTI hTO h1 h2 hsz hk => wpAny_pyIter_zip hz ?_
      have I2 : Inv X pins σ H1 { s1 with heap := h' } := I1.kept (t' := s1.toks) hk
      have S : ZipSep2 (s1.heap.objs.size + 4) (s1.heap.objs.size + 2) (s1.heap.objs.size + 3) s1.heap.objs.size (s1.heap.objs.size + 1) [s1.heap.objs.size, a] [s1.heap.objs.size + 1] := by
        refine zip_sep2 (fp1 := [a]) (fp2 := []) (fun b hb => ?_) (fun b hb => by simp at hb)
        rw [List.mem_singleton.mp hb]; exact hal
      refine ⟨s1.heap.objs.size + 4, [s1.heap.objs.size + 4, s1.heap.objs.size + 2, s1.heap.objs.size + 3, s1.heap.objs.size, s1.heap.objs.size + 1], _, _, H1, rfl, I2, turn_zipTS (tk0 := t) ⟨S, Nat.ne_of_lt hal⟩,
        ⟨⟨Nat.zero_le _, Nat.zero_le _⟩, hz, hTI, ⟨_, _, hTO⟩, ⟨_, h1, rfl, rfl⟩, ⟨_, h2, rfl, rfl⟩⟩, fresh5, q⟩
end zipTS

def iSq (K : PySem.W.Frag) (tl : TE) : TI := fun σ H R => tl σ H fun x H1 => (∃ a, x = .ref a ∧ (∃ xs, SqL K H1 a xs) ∧ R (Itl K a) H1) ∨ (∃ a, x = .ref a ∧ (∃ xs, SqT K H1 a xs) ∧ R (Itt K a) H1) ∨ ∃ z, x = .str z ∧ R (Its z) H1
theorem pi_sq {X : Cx} {tg l : Expr} {tl : TE} (hl : PE X l tl) : PI X tg l (iSq X.K tl) := by
  refine ⟨fun pins s σ H R I h => ?_⟩
  refine thn (hl.run pins s σ H _ I h) fun v s1 ⟨x, H1, I1, r1, q1⟩ => ?_
  have C1 : PE X (.Constant .none 0 default) (fun _ H Q => H = H1 ∧ Q x H) → True := fun _ => trivial
  rcases q1 with ⟨a, e, ⟨xs, hq⟩, q⟩ | ⟨a, e, ⟨xs, hq⟩, q⟩ | ⟨z, e, q⟩
  · subst e
    cases r1
    obtain ⟨its, rv, p, hz⟩ := I1.list hq
    refine wpAny_pyIter_list p.isList ?_
    refine ⟨s1.heap.objs.size, [s1.heap.objs.size], _, _, H1, rfl, I1.kept (t' := s1.toks) fun b o e => Heap.get?_push_of_some _ e, turn_list a _, ⟨_, Heap.get?_push_size _ rfl, rfl, rfl⟩, fun b hb => ?_, q⟩
    have e : b = s1.heap.objs.size := by simpa using hb
    subst e
    exact I1.fpOk (Nat.le_refl _) (I1.hok.fresh (Nat.le_refl _))
  · subst e
    cases r1
    obtain ⟨its, rv, p, hz⟩ := I1.tuple hq
    refine wpAny_pyIter_tuple (show s1.heap.IsTuple a its.toArray from p) ?_
    refine ⟨s1.heap.objs.size, [s1.heap.objs.size], _, _, H1, rfl, I1.kept (t' := s1.toks) fun b o e => Heap.get?_push_of_some _ e, turn_tuple a _, ⟨_, Heap.get?_push_size _ rfl, rfl, rfl⟩, fun b hb => ?_, q⟩
    have e : b = s1.heap.objs.size := by simpa using hb
    subst e
    exact I1.fpOk (Nat.le_refl _) (I1.hok.fresh (Nat.le_refl _))
  · subst e
    obtain ⟨t, rfl⟩ := r1
    refine wpAny_pyIter_strU ?_
    have hty : strIterType z = "str_ascii_iterator" ∨ strIterType z = "str_iterator" := by
      unfold strIterType
      split
      · exact .inl rfl
      · exact .inr rfl
    refine ⟨s1.heap.objs.size, [s1.heap.objs.size], _, _, H1, rfl, I1.kept (t' := s1.toks) fun b o e => Heap.get?_push_of_some _ e, turn_str s1.heap.objs.size z t _ hty, ⟨_, Heap.get?_push_size _ rfl, rfl, rfl⟩, fun b hb => ?_, q⟩
    have e : b = s1.heap.objs.size := by simpa using hb
    subst e
    exact I1.fpOk (Nat.le_refl _) (I1.hok.fresh (Nat.le_refl _))

variable {T : Tb}
structure Wk (T : Tb) (F0 : Addr → Prop) (H0 : Hp) (J : It) (ws : List W) (G : Mh → Prop) : Prop where
  go : ∀ F H M i, Ext F0 H0 F H → Sim T F H M → G M → i < ws.length → J.go i H
  stop : ∀ F H M i, Ext F0 H0 F H → Sim T F H M → G M → ws.length ≤ i → J.stop i H
  yld : ∀ F H M i w x H', Ext F0 H0 F H → Sim T F H M → G M → ws[i]? = some w → J.yld i H x H' → ∃ F', Ext F H F' H' ∧ Sim T F' H' M ∧ RW T F' H' w x
theorem Wk.ext {F0 F1 : Addr → Prop} {H0 H1 : Hp} {J : It} {ws : List W} {G : Mh → Prop} (k : Wk T F0 H0 J ws G) (e : Ext F0 H0 F1 H1) : Wk T F1 H1 J ws G :=
  ⟨fun F H M i x => k.go F H M i (e.trans x), fun F H M i x => k.stop F H M i (e.trans x), fun F H M i w y H' x => k.yld F H M i w y H' (e.trans x)⟩
abbrev DI := Sw → Mh → (List W → (Mh → Prop) → Mh → Prop) → QX → Prop
def cI (T : Tb) (E : XK) (ι : DI) : TI := fun σ H R => ∃ F σw M Rw Ew, RS T F H σw σ ∧ Sim T F H M ∧ ι σw M Rw Ew ∧
  (∀ ws G M' J H' F', Ext F H F' H' → Sim T F' H' M' → G M' → Wk T F' H' J ws G → Rw ws G M' → R J H') ∧ ExK T E F H Ew
theorem PI.imp {X : Cx} {tg e : Expr} {t t' : TI} (h : PI X tg e t) (k : ∀ σ H R, t' σ H R → t σ H R) : PI X tg e t' := ⟨fun pins s σ H R I q => h.run pins s σ H R I (k _ _ _ q)⟩
theorem wk_list {F : Addr → Prop} {H : Hp} {a : Addr} {ws : List W} {vs : List V} {G : Mh → Prop} (r : RWs T F H ws vs) (h : ∀ F' H' M', Ext F H F' H' → Sim T F' H' M' → G M' → ∃ vs', SqL T.K H' a vs' ∧ RWs T F' H' ws vs') :
    Wk T F H (Itl T.K a) ws G where
  go := fun F1 H1 M i e S g hi => by
    obtain ⟨us, q, r1⟩ := h F1 H1 M e S g
    have hl := r1.length
    exact ⟨us, us[i]'(by omega), q, List.getElem?_eq_getElem (by omega)⟩
  stop := fun F1 H1 M i e S g hi => by
    obtain ⟨us, q, r1⟩ := h F1 H1 M e S g
    have hl := r1.length
    exact ⟨us, q, by omega⟩
  yld := fun F1 H1 M i w x H' e S g hw y => by
    obtain ⟨us, q, r1⟩ := h F1 H1 M e S g
    obtain ⟨eH, y⟩ := y
    subst eH
    obtain ⟨v, hv, rv⟩ := r1.get hw
    rw [y us q] at hv
    cases hv
    exact ⟨F1, .refl, S, rv⟩
theorem wk_tup {F : Addr → Prop} {H : Hp} {a : Addr} {ws : List W} {vs : List V} {G : Mh → Prop} (h : SqT T.K H a vs) (r : RWs T F H ws vs) : Wk T F H (Itt T.K a) ws G where
  go := fun F1 H1 M i e S g hi => by
    have hl := r.length
    exact ⟨vs, vs[i]'(by omega), e.sqt h, List.getElem?_eq_getElem (by omega)⟩
  stop := fun F1 H1 M i e S g hi => by
    have hl := r.length
    exact ⟨vs, e.sqt h, by omega⟩
  yld := fun F1 H1 M i w x H' e S g hw y => by
    obtain ⟨eH, y⟩ := y
    subst eH
    obtain ⟨v, hv, rv⟩ := r.get hw
    rw [y vs (e.sqt h)] at hv
    cases hv
    exact ⟨F1, .refl, S, rv.ext e⟩
def signs (z : Str) : List W := z.cps.toList.map fun c => W.str ⟨#[c]⟩
theorem wk_str {F : Addr → Prop} {H : Hp} {z : Str} {G : Mh → Prop} : Wk T F H (Its z) (signs z) G where
  go := fun F1 H1 M i e S g hi => by
    show i < z.cps.size
    simpa [signs] using hi
  stop := fun F1 H1 M i e S g hi => by
    show z.cps.size ≤ i
    simpa [signs] using hi
  yld := fun F1 H1 M i w x H' e S g hw y => by
    obtain ⟨eH, c, hc, y⟩ := y
    subst eH y
    unfold signs at hw
    rw [List.getElem?_map, Array.getElem?_toList, hc] at hw
    cases hw
    exact ⟨F1, .refl, S, RW.str_.mpr rfl⟩
def rangeL (lo hi : Int) : List W := (List.range (hi - lo).toNat).map fun i : Nat => W.int (lo + i)
theorem wk_rng {F : Addr → Prop} {H : Hp} {lo hi : Int} {G : Mh → Prop} : Wk T F H (Itr lo (hi - lo).toNat) (rangeL lo hi) G where
  go := fun F1 H1 M i e S g hi => by
    show i < _
    simpa [rangeL] using hi
  stop := fun F1 H1 M i e S g hi => by
    show _ ≤ i
    simpa [rangeL] using hi
  yld := fun F1 H1 M i w x H' e S g hw y => by
    obtain ⟨eH, y⟩ := y
    subst eH y
    unfold rangeL at hw
    rw [List.getElem?_map] at hw
    cases q : (List.range (hi - lo).toNat)[i]? with
    | none => rw [q] at hw; cases hw
    | some j =>
      rw [q] at hw; cases hw
      have : j = i := by
        have := List.getElem?_eq_some_iff.mp q
        obtain ⟨_, e⟩ := this
        rw [List.getElem_range] at e
        exact e.symm
      subst this
      exact ⟨F1, .refl, S, RW.int_.mpr rfl⟩
theorem yld_pair {F : Addr → Prop} {H : Hp} {M : Mh} {p : Addr} {a b : W} {x y : V} (S : Sim T F H M) (hp : H p = none) (ra : RW T F H a x) (rb : RW T F H b y) :
    ∃ F', Ext F H F' (upd H p (.tup [x, y])) ∧ Sim T F' (upd H p (.tup [x, y])) M ∧ RW T F' (upd H p (.tup [x, y])) (.tup [a, b]) (.ref p) := by
  obtain ⟨e, S'⟩ := S.newT (vs := [x, y]) hp
  exact ⟨F, e, S', RW.tup_.mpr ⟨p, _, rfl, .of upd_same, .cons (ra.ext e) (.cons (rb.ext e) .nil)⟩⟩
def pairs : List W → List W → List W
  | a :: as, b :: bs => .tup [a, b] :: pairs as bs
  | _, _ => []
theorem pairs_length : ∀ as bs : List W, (pairs as bs).length = min as.length bs.length
  | [], _ => by simp [pairs]
  | _ :: _, [] => by simp [pairs]
  | a :: as, b :: bs => by simp only [pairs, List.length_cons, pairs_length as bs]; omega
theorem pairs_get : ∀ {as bs : List W} {i : Nat} {w : W}, (pairs as bs)[i]? = some w → ∃ a b, as[i]? = some a ∧ bs[i]? = some b ∧ w = .tup [a, b]
  | [], _, i, w, h => by simp [pairs] at h
  | _ :: _, [], i, w, h => by simp [pairs] at h
  | a :: as, b :: bs, 0, w, h => by simp [pairs] at h; exact ⟨a, b, rfl, rfl, h.symm⟩
  | a :: as, b :: bs, i + 1, w, h => by
    simp only [pairs, List.getElem?_cons_succ] at h
    obtain ⟨x, y, h1, h2, h3⟩ := pairs_get h
    exact ⟨x, y, by simpa using h1, by simpa using h2, h3⟩
theorem wk_zipS {F : Addr → Prop} {H : Hp} {a : Addr} {ws : List W} {vs : List V} {z : Str} {G : Mh → Prop} (h : SqT T.K H a vs) (r : RWs T F H ws vs) : Wk T F H (ItzS T.K a vs.length z) (pairs ws (signs z)) G where
  go := fun F1 H1 M i e S g hi => by
    have hl := r.length
    rw [pairs_length] at hi
    have h2 : (signs z).length = z.cps.size := by simp [signs]
    exact ⟨vs, vs[i]'(by omega), e.sqt h, rfl, List.getElem?_eq_getElem (by omega), by omega⟩
  stop := fun F1 H1 M i e S g hi => by
    have hl := r.length
    rw [pairs_length] at hi
    have h2 : (signs z).length = z.cps.size := by simp [signs]
    exact ⟨vs, e.sqt h, rfl, by omega⟩
  yld := fun F1 H1 M i w x H' e S g hw y => by
    obtain ⟨p, v, c, rfl, hp, rfl, hv, hc⟩ := y
    obtain ⟨b, d, h1, h2, rfl⟩ := pairs_get hw
    obtain ⟨v2, h3, r3⟩ := r.get h1
    rw [hv vs (e.sqt h)] at h3
    cases h3
    unfold signs at h2
    rw [List.getElem?_map, Array.getElem?_toList, hc] at h2
    cases h2
    exact yld_pair S hp (r3.ext e) (RW.str_.mpr rfl)
def enums (k : Nat) : List W → List W
  | [] => []
  | a :: as => .tup [.int (k : Nat), a] :: enums (k + 1) as
theorem enums_length : ∀ (k : Nat) (as : List W), (enums k as).length = as.length
  | _, [] => rfl
  | k, a :: as => by simp only [enums, List.length_cons, enums_length (k + 1) as]
theorem enums_get : ∀ {k : Nat} {as : List W} {i : Nat} {w : W}, (enums k as)[i]? = some w → ∃ a, as[i]? = some a ∧ w = .tup [.int ((k + i : Nat) : Int), a]
  | _, [], i, w, h => by simp [enums] at h
  | k, a :: as, 0, w, h => by simp [enums] at h; exact ⟨a, rfl, h.symm⟩
  | k, a :: as, i + 1, w, h => by
    simp only [enums, List.getElem?_cons_succ] at h
    obtain ⟨x, h1, h3⟩ := enums_get h
    exact ⟨x, by simpa using h1, by rw [h3]; congr 3; omega⟩
theorem wk_enum {F : Addr → Prop} {H : Hp} {a : Addr} {ws : List W} {G : Mh → Prop} (h : ∀ F' H' M', Ext F H F' H' → Sim T F' H' M' → G M' → ∃ vs', SqL T.K H' a vs' ∧ RWs T F' H' ws vs') : Wk T F H (Ite T.K a) (enums 0 ws) G where
  go := fun F1 H1 M i e S g hi => by
    obtain ⟨us, q, r1⟩ := h F1 H1 M e S g
    have hl := r1.length
    rw [enums_length] at hi
    exact ⟨us, us[i]'(by omega), q, List.getElem?_eq_getElem (by omega)⟩
  stop := fun F1 H1 M i e S g hi => by
    obtain ⟨us, q, r1⟩ := h F1 H1 M e S g
    have hl := r1.length
    rw [enums_length] at hi
    exact ⟨us, q, by omega⟩
  yld := fun F1 H1 M i w x H' e S g hw y => by
    obtain ⟨us, q, r1⟩ := h F1 H1 M e S g
    obtain ⟨p, v, rfl, hp, rfl, hv⟩ := y
    obtain ⟨b, h1, rfl⟩ := enums_get hw
    obtain ⟨v2, h3, r3⟩ := r1.get h1
    rw [hv us q] at h3
    cases h3
    rw [Nat.zero_add]
    exact yld_pair S hp (RW.int_.mpr rfl) r3
def walkW (M : Mh) : W → List W → (Mh → Prop) → Prop
  | .lst ws, us, G => us = ws ∧ G = fun _ => True
  | .scr ws, us, G => us = ws ∧ G = fun _ => True
  | .tup ws, us, G => us = ws ∧ G = fun _ => True
  | .str z, us, G => us = signs z ∧ G = fun _ => True
  | .ref a, us, G => M a = some (.lst us) ∧ G = fun M => M a = some (.lst us)
  | _, _, _ => False
theorem walk_w {F : Addr → Prop} {H : Hp} {M : Mh} {x : W} {v : V} {us : List W} {G : Mh → Prop} (S : Sim T F H M) (rx : RW T F H x v) (h : walkW M x us G) :
    G M ∧ ((∃ a, v = .ref a ∧ (∃ xs, SqL T.K H a xs) ∧ Wk T F H (Itl T.K a) us G) ∨ (∃ a, v = .ref a ∧ (∃ xs, SqT T.K H a xs) ∧ Wk T F H (Itt T.K a) us G) ∨ ∃ z, v = .str z ∧ Wk T F H (Its z) us G) := by
  cases x with
  | lst ws =>
    obtain ⟨rfl, rfl⟩ := h
    obtain ⟨a, vs, rfl, f, e, r⟩ := RW.lst_.mp rx
    exact ⟨trivial, .inl ⟨a, rfl, ⟨vs, .of e⟩, wk_list r fun F' H' M' x _ _ => ⟨vs, .of ((x.fz a f).2.trans e), r.ext x⟩⟩⟩
  | scr ws =>
    obtain ⟨rfl, rfl⟩ := h
    obtain ⟨a, vs, rfl, e, r⟩ := RW.scr_.mp rx
    exact ⟨trivial, .inl ⟨a, rfl, ⟨vs, e.sq⟩, wk_list r fun F' H' M' x _ _ => ⟨vs, (x.scr e).sq, r.ext x⟩⟩⟩
  | tup ws =>
    obtain ⟨rfl, rfl⟩ := h
    obtain ⟨a, vs, rfl, e, r⟩ := RW.tup_.mp rx
    exact ⟨trivial, .inr (.inl ⟨a, rfl, ⟨vs, e⟩, wk_tup e r⟩)⟩
  | str z =>
    obtain ⟨rfl, rfl⟩ := h
    exact ⟨trivial, .inr (.inr ⟨z, RW.str_.mp rx, wk_str⟩)⟩
  | ref a =>
    obtain ⟨h1, rfl⟩ := h
    obtain ⟨_, vs, e, r⟩ := S.lst h1
    exact ⟨h1, .inl ⟨a, RW.ref_.mp rx, ⟨vs, .of e⟩, wk_list r fun F' H' M' x S' g => by
      obtain ⟨_, vs', e', r'⟩ := S'.lst g
      exact ⟨vs', .of e', r'⟩⟩⟩
  | _ => exact h.elim
end WL
namespace WL
open PySem PySem.Spec PyProof.Rows L2

def noStar : Expr → Bool
  | .Starred .. => false
  | _ => true
theorem star_cons {e : Expr} {es : List Expr} {env : Env} (h : noStar e = true) : starEach (e :: es) env = (false, eval e env) :: starEach es env := by
  cases e <;> first | rfl | cases h
theorem star_all : ∀ {es : List Expr} {env : Env}, es.all noStar = true → ∀ x ∈ starEach es env, x.1 = false
  | [], _, _, x, hx => by simp [starEach] at hx
  | e :: es, env, h, x, hx => by
    rw [List.all_cons, Bool.and_eq_true] at h
    rw [star_cons h.1] at hx
    rcases List.mem_cons.mp hx with rfl | hx
    · rfl
    · exact star_all h.2 x hx
theorem star_any {es : List Expr} {env : Env} {pos : Pos} (h : es.all noStar = true) : (backTo pos (starEach es env)).any (·.1) = false := by
  rw [List.any_eq_false]
  intro x hx
  unfold backTo at hx
  obtain ⟨y, hy, rfl⟩ := List.mem_map.mp hx
  have := star_all h y hy
  simp [this]
theorem star_every {es : List Expr} {env : Env} {pos : Pos} (h : es.all noStar = true) : (backTo pos (starEach es env)).all (fun x => !x.1) = true := by
  rw [List.all_eq_true]
  intro x hx
  unfold backTo at hx
  obtain ⟨y, hy, rfl⟩ := List.mem_map.mp hx
  have := star_all h y hy
  simp [this]
def plainBase : Expr → Bool
  | .Call (.Name _ _) [] [] _ => false
  | _ => true
theorem base_of {o : Expr} {m : Str} {env : Env} (h : plainBase o = true) : attributeBase o m env (eval o env) = eval o env := by
  cases o with
  | Call f as ks p =>
    cases f with
    | Name id q =>
      cases as with
      | nil => cases ks with
        | nil => cases h
        | cons _ _ => rfl
      | cons _ _ => rfl
    | _ => rfl
  | _ => rfl
def plainIx : Expr → Bool
  | .Slice .. => false
  | _ => true
theorem ix_of {b : Expr} (h : plainIx b = true) : PlainIx b := by
  intro o i
  cases b <;> first | rfl | cases h
def noSet : Expr → Bool
  | .Set .. => false
  | _ => true
theorem folded_of {e : Expr} {env : Env} (h : noSet e = true) : ∀ x, foldedSetIterable e env x = pure x := by
  intro x
  cases e <;> first | rfl | cases h
theorem marks_of {e : Expr} {op : CmpOp} (h : noSet e = true) : behindInMarks op e = false := by
  cases e <;> first | rfl | cases h
def plainTest : Expr → Bool
  | .UnaryOp .Not _ _ => false
  | .BoolOp .. => false
  | .IfExp .. => false
  | .Compare .. => false
  | _ => true
theorem test_of {e : Expr} {env : Env} (h : plainTest e = true) : ∀ whole, isTrue e env whole = (do let v ← whole; standAt e.pos; holding [v] (truthy v)) := by
  intro whole
  cases e with
  | UnaryOp op x p => cases op <;> first | rfl | cases h
  | BoolOp _ _ _ => cases h
  | IfExp _ _ _ _ => cases h
  | Compare _ _ _ _ => cases h
  | _ => rfl
def noComp : Expr → Bool
  | .ListComp .. => false
  | .SetComp .. => false
  | .DictComp .. => false
  | _ => true
theorem swaps_of {e : Expr} {t : Option Expr} {l : Nat} {env : Env} (h : noComp e = true) : swapsWith e t l env = pure false := by
  cases e <;> first | rfl | cases h
def visB (sc : Scope) (x : Str) : Bool := match sc.names.lookup x with
  | some .local => true
  | some .cell => true
  | some .free => true
  | _ => false
theorem vis_of {sc : Scope} {x : Str} (h : visB sc x = true) : Vis sc x := by
  unfold visB at h
  cases e : sc.names.lookup x with
  | none => rw [e] at h; cases h
  | some k => cases k with
    | «local» => exact .inl e
    | cell => exact .inr (.inl e)
    | free => exact .inr (.inr e)
    | globalExplicit => rw [e] at h; cases h
    | globalImplicit => rw [e] at h; cases h
def locB (sc : Scope) (x : Str) : Bool := match sc.names.lookup x with
  | some .local => true
  | some .cell => true
  | _ => false
theorem loc_of {sc : Scope} {x : Str} (h : locB sc x = true) : Loc sc x := by
  unfold locB at h
  cases e : sc.names.lookup x with
  | none => rw [e] at h; cases h
  | some k => cases k with
    | «local» => exact .inl e
    | cell => exact .inr e
    | free => rw [e] at h; cases h
    | globalExplicit => rw [e] at h; cases h
    | globalImplicit => rw [e] at h; cases h
def glB (sc : Scope) (x : Str) : Bool := decide (sc.names.lookup x = some .globalImplicit)
def okName (x : Str) : Bool := !(x == ("__debug__" : Str)) && !(x == ("__classdict__" : Str)) && decide (x ≠ "__name__")
theorem okName_of {x : Str} (h : okName x = true) : (x == ("__debug__" : Str)) = false ∧ (x == ("__classdict__" : Str)) = false ∧ x ≠ "__name__" := by
  unfold okName at h
  simp only [Bool.and_eq_true, Bool.not_eq_true', decide_eq_true_eq] at h
  exact ⟨h.1.1, h.1.2, h.2⟩

variable {T : Tb} {X : Cx} {E : XK}
def d2 (p : W → W → Mh → QW → Prop) (τa τb : DE) : DE := fun σ M Q Ex => τa σ M (fun x M1 => τb σ M1 (fun y M2 => p x y M2 Q) Ex) Ex
theorem ce_bin {τa τb : DE} {r : R2} {p : W → W → Mh → QW → Prop} (k : Ok2 T r p) {σ : L2.St} {H : Hp} {Q : VK} (h : cE T E (d2 p τa τb) σ H Q) : tOp r (cE T E τa) (cE T E τb) σ H Q := by
  obtain ⟨F, σw, M, Qw, Ew, rs, S, t, kq, kx⟩ := h
  refine ⟨F, σw, M, _, Ew, rs, S, t, fun x M1 v H1 F1 e1 r1 S1 t1 => ?_, kx⟩
  refine ⟨F1, σw, M1, _, Ew, rs.ext e1, S1, t1, fun y M2 u H2 F2 e2 r2 S2 t2 => ?_, kx.ext e1⟩
  exact k F2 H2 M2 x y v u Qw Q S2 (r1.ext e2) r2 t2 fun w M' z H' F' e' rw' S' q => kq w M' z H' F' ((e1.trans e2).trans e') rw' S' q
theorem ae_op {op : Operator} {a b : Expr} {pos : Pos} {τa τb : DE} {r : R2} {p : W → W → Mh → QW → Prop} (ho : OpR X (binaryOp op) r) (k : Ok2 T r p) (ha : PE X a (cE T E τa)) (hb : PE X b (cE T E τb)) :
    PE X (.BinOp a op b pos) (cE T E (d2 p τa τb)) := PE.imp (pe_op ho ha hb) fun σ H Q h => ce_bin k h
theorem ae_cmp {op : CmpOp} {a b : Expr} {pos : Pos} {τa τb : DE} {r : R2} {p : W → W → Mh → QW → Prop} (ho : OpR X (compareOp op) r) (k : Ok2 T r p) (ha : PE X a (cE T E τa)) (hb : PE X b (cE T E τb)) (hm : behindInMarks op b = false) :
    PE X (.Compare a [op] [b] pos) (cE T E (d2 p τa τb)) := PE.imp (pe_cmpR ho ha hb hm) fun σ H Q h => ce_bin k h
def dB (τ : DE) : DT := fun σ M Q Ex => τ σ M (fun x M1 => ∃ b, x = .bl b ∧ Q b M1) Ex
theorem ct_bl {τ : DE} {t : TE} (h : ∀ σ H Q, cE T E τ σ H Q → t σ H Q) {σ : L2.St} {H : Hp} {Q : Bool → Hp → Prop} (q : cT T E (dB τ) σ H Q) : tTest t σ H Q := by
  obtain ⟨F, σw, M, Qw, Ew, rs, S, t, kq, kx⟩ := q
  refine h σ H _ ⟨F, σw, M, _, Ew, rs, S, t, fun w M' v H' F' e r S' ⟨b, eb, q⟩ => ?_, kx⟩
  subst eb
  exact ⟨b, RW.bl_.mp r, kq b M' H' F' e S' q⟩
theorem at_cmp {op : CmpOp} {a b : Expr} {pos : Pos} {τa τb : DE} {r : R2} {p : W → W → Mh → QW → Prop} (ho : OpR X (compareOp op) r) (k : Ok2 T r p) (ha : PE X a (cE T E τa)) (hb : PE X b (cE T E τb)) (hm : behindInMarks op b = false) :
    PT X (.Compare a [op] [b] pos) (cT T E (dB (d2 p τa τb))) := PT.imp (pt_cmpR ho ha hb hm) fun σ H Q h => ct_bl (fun _ _ _ => ce_bin k) h
def dChain (p p' : W → W → Mh → QW → Prop) (τa τb τc : DE) : DE := fun σ M Q Ex => τa σ M (fun x M1 => τb σ M1 (fun y M2 => p x y M2 fun z M3 => ∃ b, z = .bl b ∧
  if b = true then τc σ M3 (fun u M4 => p' y u M4 Q) Ex else Q (.bl false) M3) Ex) Ex
theorem ce_chain {τa τb τc : DE} {r r' : R2} {p p' : W → W → Mh → QW → Prop} (k : Ok2 T r p) (k' : Ok2 T r' p') {σ : L2.St} {H : Hp} {Q : VK} (h : cE T E (dChain p p' τa τb τc) σ H Q) : tChain r r' (cE T E τa) (cE T E τb) (cE T E τc) σ H Q := by
  obtain ⟨F, σw, M, Qw, Ew, rs, S, t, kq, kx⟩ := h
  refine ⟨F, σw, M, _, Ew, rs, S, t, fun x M1 v H1 F1 e1 r1 S1 t1 => ?_, kx⟩
  refine ⟨F1, σw, M1, _, Ew, rs.ext e1, S1, t1, fun y M2 u H2 F2 e2 r2 S2 t2 => ?_, kx.ext e1⟩
  refine k F2 H2 M2 x y v u _ _ S2 (r1.ext e2) r2 t2 fun w M' z H' F' e' rw' S' q => ?_
  obtain ⟨b, eb, q⟩ := q
  subst eb
  refine ⟨b, RW.bl_.mp rw', ?_⟩
  have e3 := (e1.trans e2).trans e'
  cases b with
  | false =>
    rw [if_neg Bool.false_ne_true] at q ⊢
    exact kq _ _ _ _ _ e3 (RW.bl_.mpr rfl) S' q
  | true =>
    rw [if_pos rfl] at q ⊢
    refine ⟨F', σw, M', _, Ew, rs.ext e3, S', q, fun y2 M4 u4 H4 F4 e4 r4 S4 q4 => ?_, kx.ext e3⟩
    exact k' F4 H4 M4 y y2 u u4 Qw Q S4 ((r2.ext e').ext e4) r4 q4 fun w M5 z H5 F5 e5 r5 S5 q5 => kq w M5 z H5 F5 ((e3.trans e4).trans e5) r5 S5 q5
theorem ae_chain {op op' : CmpOp} {a b c : Expr} {pos : Pos} {τa τb τc : DE} {r r' : R2} {p p' : W → W → Mh → QW → Prop} (ho : OpR X (compareOp op) r) (ho' : OpR X (compareOp op') r') (k : Ok2 T r p) (k' : Ok2 T r' p')
    (ha : PE X a (cE T E τa)) (hb : PE X b (cE T E τb)) (hc : PE X c (cE T E τc)) (hm' : behindInMarks op' c = false) :
    PE X (.Compare a [op, op'] [b, c] pos) (cE T E (dChain p p' τa τb τc)) := PE.imp (pe_chain ho ho' ha hb hc (show lastMarks [op'] [c] = false from hm')) fun σ H Q h => ce_chain k k' h
theorem at_chain {op op' : CmpOp} {a b c : Expr} {pos : Pos} {τa τb τc : DE} {r r' : R2} {p p' : W → W → Mh → QW → Prop} (ho : OpR X (compareOp op) r) (ho' : OpR X (compareOp op') r') (k : Ok2 T r p) (k' : Ok2 T r' p')
    (ha : PE X a (cE T E τa)) (hb : PE X b (cE T E τb)) (hc : PE X c (cE T E τc)) (hm' : behindInMarks op' c = false) :
    PT X (.Compare a [op, op'] [b, c] pos) (cT T E (dB (dChain p p' τa τb τc))) := PT.imp (pt_chain ho ho' ha hb hc (show lastMarks [op'] [c] = false from hm')) fun σ H Q h => ct_bl (fun _ _ _ => ce_chain k k') h
def dC (w : W) : DE := fun _ M Q _ => Q w M
theorem ae_C {e : Expr} {w : W} {v : V} (h : PE X e (tC v)) (r : ∀ F H, RW T F H w v) : PE X e (cE T E (dC w)) := PE.imp h fun σ H Q q => by
  obtain ⟨F, σw, M, Qw, Ew, rs, S, t, kq, kx⟩ := q
  exact kq w M v H F .refl (r F H) S t
def dVar (i : Nat) : DE := fun σ M Q _ => ∃ w, σ[i]? = some (some w) ∧ Q w M
theorem ae_var {e : Expr} {i : Nat} (h : PE X e (tVar i)) : PE X e (cE T E (dVar i)) := PE.imp h fun σ H Q q => by
  obtain ⟨F, σw, M, Qw, Ew, rs, S, ⟨w, h1, q⟩, kq, kx⟩ := q
  obtain ⟨v, h2, r⟩ := rs.at_ i w h1
  exact ⟨v, h2, kq w M v H F .refl r S q⟩
def dNil : DA := fun _ M Q _ => Q [] M
def dCons (τ : DE) (ρ : DA) : DA := fun σ M Q Ex => τ σ M (fun x M1 => ρ σ M1 (fun xs M2 => Q (x :: xs) M2) Ex) Ex
theorem aa_nil : PA X [] (cA T E dNil) := PA.imp pa_nil fun σ H Q q => by
  obtain ⟨F, σw, M, Qw, Ew, rs, S, t, kq, kx⟩ := q
  exact kq [] M [] H F .refl .nil S t
theorem aa_cons {e : Expr} {es : List Expr} {τ : DE} {ρ : DA} (ha : PE X e (cE T E τ)) (hr : PA X es (cA T E ρ)) (hs : noStar e = true) : PA X (e :: es) (cA T E (dCons τ ρ)) := PA.imp (pa_cons ha hr (star_cons hs)) fun σ H Q q => by
  obtain ⟨F, σw, M, Qw, Ew, rs, S, t, kq, kx⟩ := q
  refine ⟨F, σw, M, _, Ew, rs, S, t, fun x M1 v H1 F1 e1 r1 S1 t1 => ?_, kx⟩
  refine ⟨F1, σw, M1, _, Ew, rs.ext e1, S1, t1, fun xs M2 vs H2 F2 e2 r2 S2 t2 => ?_, kx.ext e1⟩
  exact kq _ _ _ _ _ (e1.trans e2) (.cons (r1.ext e2) r2) S2 t2
def dTup (ρ : DA) : DE := fun σ M Q Ex => ρ σ M (fun ws M1 => ws.length ≤ sizeLine ∧ Q (.tup ws) M1) Ex
def dLst (own : Bool) (ρ : DA) : DE := fun σ M Q Ex => ρ σ M (fun ws M1 => ws.length ≤ sizeLine ∧ newL own ws M1 Q) Ex
theorem KQ.of {F : Addr → Prop} {H : Hp} {Qw : QW} {Q : VK} {F1 : Addr → Prop} {H1 : Hp} (kq : ∀ w M' v H' F', Ext F H F' H' → RW T F' H' w v → Sim T F' H' M' → Qw w M' → Q v H') (e : Ext F H F1 H1) : KQ T F1 H1 Qw Q :=
  fun w M' v H' F' e' r S q => kq w M' v H' F' (e.trans e') r S q
theorem ae_tup {es : List Expr} {ρ : DA} {x1 : Nat} {pos : Pos} (h : PA X es (cA T E ρ)) : PE X (.Tuple es x1 pos) (cE T E (dTup ρ)) := PE.imp (pe_tup h) fun σ H Q q => by
  obtain ⟨F, σw, M, Qw, Ew, rs, S, t, kq, kx⟩ := q
  refine ⟨F, σw, M, _, Ew, rs, S, t, fun ws M1 vs H1 F1 e1 r1 S1 t1 => ⟨by rw [← r1.length]; exact t1.1, (KQ.of kq e1).newT S1 r1 t1.2⟩, kx⟩
theorem ae_lst {own : Bool} {es : List Expr} {ρ : DA} {pos : Pos} (h : PA X es (cA T E ρ)) : PE X (.List es pos) (cE T E (dLst own ρ)) := PE.imp (pe_lst h) fun σ H Q q => by
  obtain ⟨F, σw, M, Qw, Ew, rs, S, t, kq, kx⟩ := q
  refine ⟨F, σw, M, _, Ew, rs, S, t, fun ws M1 vs H1 F1 e1 r1 S1 t1 => ⟨by rw [← r1.length]; exact t1.1, (KQ.of kq e1).newL S1 r1 t1.2⟩, kx⟩
def negW : W → Mh → QW → Prop
  | .int i, M, Q => Q (.int (-i)) M
  | _, _, _ => False
def d1 (p : W → Mh → QW → Prop) (τ : DE) : DE := fun σ M Q Ex => τ σ M (fun x M1 => p x M1 Q) Ex
theorem ae_neg {a : Expr} {τ : DE} {pos : Pos} (h : PE X a (cE T E τ)) : PE X (.UnaryOp .USub a pos) (cE T E (d1 negW τ)) := PE.imp (pe_un un_neg h) fun σ H Q q => by
  obtain ⟨F, σw, M, Qw, Ew, rs, S, t, kq, kx⟩ := q
  refine ⟨F, σw, M, _, Ew, rs, S, t, fun x M1 v H1 F1 e1 r1 S1 t1 => ?_, kx⟩
  cases x with
  | int i => rw [RW.int_.mp r1]; exact ⟨i, rfl, kq _ _ _ _ _ e1 (RW.int_.mpr rfl) S1 t1⟩
  | _ => exact t1.elim
def dNotV (τ : DE) : DE := fun σ M Q Ex => τ σ M (fun x M1 => ∃ b, x = .bl b ∧ Q (.bl (!b)) M1) Ex
theorem ae_notV {a : Expr} {τ : DE} {pos : Pos} (h : PE X a (cE T E τ)) : PE X (.UnaryOp .Not a pos) (cE T E (dNotV τ)) := PE.imp (pe_not h) fun σ H Q q => by
  obtain ⟨F, σw, M, Qw, Ew, rs, S, t, kq, kx⟩ := q
  refine ⟨F, σw, M, _, Ew, rs, S, t, fun x M1 v H1 F1 e1 r1 S1 ⟨b, eb, q⟩ => ?_, kx⟩
  subst eb
  exact ⟨b, RW.bl_.mp r1, kq _ _ _ _ _ e1 (RW.bl_.mpr rfl) S1 q⟩
def dJoinV (isAnd : Bool) (τa τb : DE) : DE := fun σ M Q Ex => τa σ M (fun x M1 => ∃ b, x = .bl b ∧ if b = isAnd then τb σ M1 Q Ex else Q (.bl b) M1) Ex
theorem ae_andV {a b : Expr} {rest : List Expr} {τa τb : DE} {pos : Pos} (ha : PE X a (cE T E τa)) (hb : PE X (.BoolOp .And (b :: rest) pos) (cE T E τb)) : PE X (.BoolOp .And (a :: b :: rest) pos) (cE T E (dJoinV true τa τb)) := PE.imp (pe_and ha hb) fun σ H Q q => by
  obtain ⟨F, σw, M, Qw, Ew, rs, S, t, kq, kx⟩ := q
  refine ⟨F, σw, M, _, Ew, rs, S, t, fun x M1 v H1 F1 e1 r1 S1 ⟨b, eb, q⟩ => ?_, kx⟩
  subst eb
  refine ⟨b, RW.bl_.mp r1, ?_⟩
  cases b with
  | true =>
    rw [if_pos rfl] at q ⊢
    exact ⟨F1, σw, M1, Qw, Ew, rs.ext e1, S1, q, KQ.of kq e1, kx.ext e1⟩
  | false =>
    rw [if_neg Bool.false_ne_true] at q ⊢
    exact kq _ _ _ _ _ e1 (RW.bl_.mpr rfl) S1 q
theorem ae_orV {a b : Expr} {rest : List Expr} {τa τb : DE} {pos : Pos} (ha : PE X a (cE T E τa)) (hb : PE X (.BoolOp .Or (b :: rest) pos) (cE T E τb)) : PE X (.BoolOp .Or (a :: b :: rest) pos) (cE T E (dJoinV false τa τb)) := PE.imp (pe_or ha hb) fun σ H Q q => by
  obtain ⟨F, σw, M, Qw, Ew, rs, S, t, kq, kx⟩ := q
  refine ⟨F, σw, M, _, Ew, rs, S, t, fun x M1 v H1 F1 e1 r1 S1 ⟨b, eb, q⟩ => ?_, kx⟩
  subst eb
  refine ⟨b, RW.bl_.mp r1, ?_⟩
  cases b with
  | true =>
    rw [if_neg (by decide)] at q
    rw [if_pos rfl]
    exact kq _ _ _ _ _ e1 (RW.bl_.mpr rfl) S1 q
  | false =>
    rw [if_pos rfl] at q
    rw [if_neg Bool.false_ne_true]
    exact ⟨F1, σw, M1, Qw, Ew, rs.ext e1, S1, q, KQ.of kq e1, kx.ext e1⟩
def dNotT (τ : DT) : DT := fun σ M Q Ex => τ σ M (fun b M1 => Q (!b) M1) Ex
def dJoinT (isAnd : Bool) (τa τb : DT) : DT := fun σ M Q Ex => τa σ M (fun b M1 => if b = isAnd then τb σ M1 Q Ex else Q b M1) Ex
def dTru (τ : DE) : DT := fun σ M Q Ex => τ σ M (fun x M1 => ∃ b, truW M1 x b ∧ Q b M1) Ex
theorem at_not {a : Expr} {τ : DT} {pos : Pos} (h : PT X a (cT T E τ)) : PT X (.UnaryOp .Not a pos) (cT T E (dNotT τ)) := PT.imp (pt_not h) fun σ H Q q => by
  obtain ⟨F, σw, M, Qw, Ew, rs, S, t, kq, kx⟩ := q
  exact ⟨F, σw, M, _, Ew, rs, S, t, fun b M1 H1 F1 e1 S1 q => kq _ _ _ _ e1 S1 q, kx⟩
theorem aw_and {a b : Expr} {rest : List Expr} {τa τb : DT} {pos : Pos} (ha : PT X a (cT T E τa)) (hb : L2.PW X (.BoolOp .And (b :: rest) pos) (cT T E τb)) : L2.PW X (.BoolOp .And (a :: b :: rest) pos) (cT T E (dJoinT true τa τb)) := PW.imp (pw_and ha hb) fun σ H Q q => by
  obtain ⟨F, σw, M, Qw, Ew, rs, S, t, kq, kx⟩ := q
  refine ⟨F, σw, M, _, Ew, rs, S, t, fun b M1 H1 F1 e1 S1 q => ?_, kx⟩
  cases b with
  | true =>
    rw [if_pos rfl] at q ⊢
    exact ⟨F1, σw, M1, Qw, Ew, rs.ext e1, S1, q, fun c M2 H2 F2 e2 S2 q2 => kq _ _ _ _ (e1.trans e2) S2 q2, kx.ext e1⟩
  | false =>
    rw [if_neg Bool.false_ne_true] at q ⊢
    exact kq _ _ _ _ e1 S1 q
theorem aw_or {a b : Expr} {rest : List Expr} {τa τb : DT} {pos : Pos} (ha : PT X a (cT T E τa)) (hb : L2.PW X (.BoolOp .Or (b :: rest) pos) (cT T E τb)) : L2.PW X (.BoolOp .Or (a :: b :: rest) pos) (cT T E (dJoinT false τa τb)) := PW.imp (pw_or ha hb) fun σ H Q q => by
  obtain ⟨F, σw, M, Qw, Ew, rs, S, t, kq, kx⟩ := q
  refine ⟨F, σw, M, _, Ew, rs, S, t, fun b M1 H1 F1 e1 S1 q => ?_, kx⟩
  cases b with
  | true =>
    rw [if_neg (by decide)] at q
    rw [if_pos rfl]
    exact kq _ _ _ _ e1 S1 q
  | false =>
    rw [if_pos rfl] at q
    rw [if_neg Bool.false_ne_true]
    exact ⟨F1, σw, M1, Qw, Ew, rs.ext e1, S1, q, fun c M2 H2 F2 e2 S2 q2 => kq _ _ _ _ (e1.trans e2) S2 q2, kx.ext e1⟩
theorem at_tru {a : Expr} {τ : DE} (hK : X.K = T.K) (h : PE X a (cE T E τ)) (hp : plainTest a = true) : PT X a (cT T E (dTru τ)) := PT.imp (pt_truth h (test_of hp)) fun σ H Q q => by
  obtain ⟨F, σw, M, Qw, Ew, rs, S, t, kq, kx⟩ := q
  refine ⟨F, σw, M, _, Ew, rs, S, t, fun x M1 v H1 F1 e1 r1 S1 ⟨b, tb, q⟩ => ⟨b, ?_, kq _ _ _ _ e1 S1 q⟩, kx⟩
  rw [hK]
  exact tru_w S1 r1 tb
def dIte (t : DT) (τa τb : DE) : DE := fun σ M Q Ex => t σ M (fun b M1 => if b = true then τa σ M1 Q Ex else τb σ M1 Q Ex) Ex
theorem ae_ite {c a b : Expr} {t : DT} {τa τb : DE} {pos : Pos} (hc : PT X c (cT T E t)) (ha : PE X a (cE T E τa)) (hb : PE X b (cE T E τb)) : PE X (.IfExp c a b pos) (cE T E (dIte t τa τb)) := PE.imp (pe_ifExp hc ha hb) fun σ H Q q => by
  obtain ⟨F, σw, M, Qw, Ew, rs, S, t, kq, kx⟩ := q
  refine ⟨F, σw, M, _, Ew, rs, S, t, fun b M1 H1 F1 e1 S1 q => ?_, kx⟩
  cases b with
  | true =>
    rw [if_pos rfl] at q ⊢
    exact ⟨F1, σw, M1, Qw, Ew, rs.ext e1, S1, q, KQ.of kq e1, kx.ext e1⟩
  | false =>
    rw [if_neg Bool.false_ne_true] at q ⊢
    exact ⟨F1, σw, M1, Qw, Ew, rs.ext e1, S1, q, KQ.of kq e1, kx.ext e1⟩
theorem ae_idx {a b : Expr} {τa τb : DE} {pos : Pos} (hK : X.K = T.K) (ha : PE X a (cE T E τa)) (hb : PE X b (cE T E τb)) (hs : plainIx b = true) : PE X (.Subscript a b pos) (cE T E (d2 idxW τa τb)) :=
  PE.imp (pe_ix ix_seq ha hb (ix_of hs)) fun σ H Q h => by rw [hK]; exact ce_bin ok_idx h
abbrev DO := Sw → Mh → (Option Int → Mh → Prop) → QX → Prop
def cO (T : Tb) (E : XK) (τ : DO) : TO := fun σ H Q => ∃ F σw M Qw Ew, RS T F H σw σ ∧ Sim T F H M ∧ τ σw M Qw Ew ∧
  (∀ o M' H' F', Ext F H F' H' → Sim T F' H' M' → Qw o M' → Q o H') ∧ ExK T E F H Ew
def dNoPart : DO := fun _ M Q _ => Q none M
def dPart (τ : DE) : DO := fun σ M Q Ex => τ σ M (fun x M1 => ∃ i, x = .int i ∧ Q (some i) M1) Ex
theorem PO.imp {e : Option Expr} {t t' : TO} (h : PO X e t) (k : ∀ σ H Q, t' σ H Q → t σ H Q) : PO X e t' := ⟨fun pins s σ H Q I q => h.run pins s σ H Q I (k _ _ _ q)⟩
theorem ao_none : PO X none (cO T E dNoPart) := PO.imp po_none fun σ H Q q => by
  obtain ⟨F, σw, M, Qw, Ew, rs, S, t, kq, kx⟩ := q
  exact kq _ _ _ _ .refl S t
theorem ao_some {e : Expr} {τ : DE} (h : PE X e (cE T E τ)) : PO X (some e) (cO T E (dPart τ)) := PO.imp (po_some h) fun σ H Q q => by
  obtain ⟨F, σw, M, Qw, Ew, rs, S, t, kq, kx⟩ := q
  refine ⟨F, σw, M, _, Ew, rs, S, t, fun x M1 v H1 F1 e1 r1 S1 ⟨i, ei, q⟩ => ?_, kx⟩
  subst ei
  exact ⟨i, RW.int_.mp r1, kq _ _ _ _ e1 S1 q⟩
def dSlice (own : Bool) (τ : DE) (lo hi : DO) : DE := fun σ M Q Ex => τ σ M (fun x M1 => lo σ M1 (fun l M2 => hi σ M2 (fun u M3 => sliceW own x l u M3 Q) Ex) Ex) Ex
theorem ae_slice {own : Bool} {a : Expr} {lo hi : Option Expr} {τ : DE} {tl th : DO} {p2 pos : Pos} (hK : X.K = T.K) (ha : PE X a (cE T E τ)) (hl : PO X lo (cO T E tl)) (hh : PO X hi (cO T E th)) :
    PE X (.Subscript a (.Slice lo hi none p2) pos) (cE T E (dSlice own τ tl th)) := PE.imp (pe_slice sl_V ha hl hh) fun σ H Q q => by
  rw [hK]
  obtain ⟨F, σw, M, Qw, Ew, rs, S, t, kq, kx⟩ := q
  refine ⟨F, σw, M, _, Ew, rs, S, t, fun x M1 v H1 F1 e1 r1 S1 q => ?_, kx⟩
  refine ⟨F1, σw, M1, _, Ew, rs.ext e1, S1, q, fun l M2 H2 F2 e2 S2 q => ?_, kx.ext e1⟩
  refine ⟨F2, σw, M2, _, Ew, (rs.ext e1).ext e2, S2, q, fun u M3 H3 F3 e3 S3 q => ?_, (kx.ext e1).ext e2⟩
  exact ok_slice S3 ((r1.ext e2).ext e3) q (KQ.of kq ((e1.trans e2).trans e3))
def dN (p : List W → Mh → QW → Prop) (ρ : DA) : DE := fun σ M Q Ex => ρ σ M (fun ws M1 => p ws M1 Q) Ex
theorem ce_n {ρ : DA} {r : List V → Hp → VK → Prop} {p : List W → Mh → QW → Prop} (k : OkN T r p) {σ : L2.St} {H : Hp} {Q : VK} (h : cE T E (dN p ρ) σ H Q) : tCB r (cA T E ρ) σ H Q := by
  obtain ⟨F, σw, M, Qw, Ew, rs, S, t, kq, kx⟩ := h
  exact ⟨F, σw, M, _, Ew, rs, S, t, fun ws M1 vs H1 F1 e1 r1 S1 q => k F1 H1 M1 ws vs Qw Q S1 r1 q (KQ.of kq e1), kx⟩
theorem ae_blt {own : Bool} {b : BI} {e : Expr} {es : List Expr} {ρ : DA} {p pos : Pos} (hK : X.K = T.K) (hc : X.calm = true) (hg : Gl X b.name) (hm : X.mg b.name = none) (ha : PA X (e :: es) (cA T E ρ)) (hs : (e :: es).all noStar = true) :
    PE X (.Call (.Name b.name p) (e :: es) [] pos) (cE T E (dN (b.w own) ρ)) := by
  rw [List.all_cons, Bool.and_eq_true] at hs
  have hb := b.boot
  have hn := b.names
  have hR : CallR X b.val (b.r T.K) := by rw [← hK]; exact b.ok hc
  have key : PE X (.Call (.Name b.name p) (e :: es) [] pos) (tCB (b.r T.K) (cA T E ρ)) := by
    cases b <;> first
      | exact pe_callB hR hg hm hb ha hn.1 hn.2 (star_cons hs.1) (star_any hs.2)
      | exact pe_callTy hR hg hm hb ha hn.1 hn.2 (star_cons hs.1) (star_any hs.2)
  exact PE.imp key fun σ H Q h => ce_n b.okN h
def dBM (own : Bool) (b : BM) (τ : DE) (ρ : DA) : DE := fun σ M Q Ex => τ σ M (fun x M1 => b.recv M1 x ∧ ρ σ M1 (fun ws M2 => b.w own x ws M2 Q) Ex) Ex
theorem ae_bm {own : Bool} {b : BM} {o e : Expr} {es : List Expr} {τ : DE} {ρ : DA} {apos pos : Pos} (hK : X.K = T.K) (ho : PE X o (cE T E τ)) (ha : PA X (e :: es) (cA T E ρ)) (hs : (e :: es).all noStar = true) (hb : plainBase o = true) (hl : (apos.endLine == pos.line) = true) (h30 : (e :: es).length < 29) :
    PE X (.Call (.Attribute o b.name apos) (e :: es) [] pos) (cE T E (dBM own b τ ρ)) := by
  have hs' := hs
  rw [List.all_cons, Bool.and_eq_true] at hs
  have hR : MtR X b.id (b.r T.K) := by rw [← hK]; exact b.ok
  refine PE.imp (pe_bm b.plain b.slot b.ty hR ho ha (base_of hb) ?_ hl (star_cons hs.1) (star_any hs.2)) fun σ H Q q => ?_
  · rw [star_every hs']
    have : decide ((e :: es).length + ([] : List Keyword).length + (if ([] : List Keyword).isEmpty then 0 else 1) < 30) = true := decide_eq_true (by simp at h30 ⊢; omega)
    rw [this]
    rfl
  · rw [hK]
    obtain ⟨F, σw, M, Qw, Ew, rs, S, t, kq, kx⟩ := q
    refine ⟨F, σw, M, _, Ew, rs, S, t, fun x M1 v H1 F1 e1 r1 S1 ⟨q0, q⟩ => ⟨BM.recv_ok S1 r1 q0, ?_⟩, kx⟩
    exact ⟨F1, σw, M1, _, Ew, rs.ext e1, S1, q, fun ws M2 vs H2 F2 e2 r2 S2 q => b.okM F2 H2 M2 x ws v vs Qw Q S2 (r1.ext e2) r2 q (KQ.of kq (e1.trans e2)), kx.ext e1⟩
theorem ae_bm0 {own : Bool} {b : BM} {o : Expr} {τ : DE} {apos pos : Pos} (hK : X.K = T.K) (ho : PE X o (cE T E τ)) (hb : plainBase o = true) (hl : (apos.endLine == pos.line) = true) :
    PE X (.Call (.Attribute o b.name apos) [] [] pos) (cE T E (dBM own b τ dNil)) := by
  have hR : MtR X b.id (b.r T.K) := by rw [← hK]; exact b.ok
  refine PE.imp (pe_bm0 b.plain b.slot b.ty hR ho (base_of hb) hl) fun σ H Q q => ?_
  rw [hK]
  obtain ⟨F, σw, M, Qw, Ew, rs, S, t, kq, kx⟩ := q
  refine ⟨F, σw, M, _, Ew, rs, S, t, fun x M1 v H1 F1 e1 r1 S1 ⟨q0, q⟩ => ⟨BM.recv_ok S1 r1 q0, ?_⟩, kx⟩
  exact b.okM F1 H1 M1 x [] v [] Qw Q S1 r1 .nil q (KQ.of kq e1)
end WL
namespace WL
open PySem PySem.Spec PyProof.Rows L2
variable {T : Tb} {X : Cx} {E : XK}

def FnF (T : Tb) (X : Cx) (n : Nat) (x : Str) (p : Wp) : Prop := ∃ f fd ps, X.mg x = some (.ref f) ∧ PySem.W.keepIn X.K (.ref f) = true ∧ Binds X.K fd ps [] ∧ FnOk X.prog X.w X.K X.mg X.base (L2.CX X.prog X.w) n f fd ps (cP T p)
def dCall (p : Wp) (ρ : DA) : DE := fun σ M Q Ex => ρ σ M (fun ws M1 => p ws M1 Q Ex) Ex
theorem ce_call {p : Wp} {ρ : DA} {σ : L2.St} {H : Hp} {Q : VK} (q : cE T E (dCall p ρ) σ H Q) : tCall (cP T p) [] E (cA T E ρ) σ H Q := by
  obtain ⟨F, σw, M, Qw, Ew, rs, S, t, kq, kx⟩ := q
  refine ⟨F, σw, M, _, Ew, rs, S, t, fun ws M1 vs H1 F1 e1 r1 S1 q => ?_, kx⟩
  show cP T p (vs ++ []) H1 Q E
  rw [List.append_nil]
  exact ⟨F1, ws, M1, Qw, Ew, r1, S1, q, KQ.of kq e1, kx.ext e1⟩
theorem ae_call {n : Nat} {x : Str} {p : Wp} {e : Expr} {es : List Expr} {ρ : DA} {q pos : Pos} (h : FnF T X n x p) (hr : Room n X.A) (hx : Passes (L2.CX X.prog X.w) X E) (hg : Gl X x) (hn : okName x = true) (ha : PA X (e :: es) (cA T E ρ)) (hs : (e :: es).all noStar = true) :
    PE X (.Call (.Name x q) (e :: es) [] pos) (cE T E (dCall p ρ)) := by
  obtain ⟨f, fd, ps, hm, hk, hb, F⟩ := h
  rw [List.all_cons, Bool.and_eq_true] at hs
  exact PE.imp (pe_call F hr hg hm hk hb .nil hx ha (okName_of hn).1 (star_cons hs.1) (star_any hs.2)) fun σ H Q q => ce_call q
theorem ae_call0 {n : Nat} {x : Str} {p : Wp} {q pos : Pos} (h : FnF T X n x p) (hr : Room n X.A) (hx : Passes (L2.CX X.prog X.w) X E) (hg : Gl X x) (hn : okName x = true) :
    PE X (.Call (.Name x q) [] [] pos) (cE T E (dCall p dNil)) := by
  obtain ⟨f, fd, ps, hm, hk, hb, F⟩ := h
  refine PE.imp (pe_call0 F hr hg hm hk hb .nil hx (okName_of hn).1) fun σ H Q q => ?_
  obtain ⟨F, σw, M, Qw, Ew, rs, S, t, kq, kx⟩ := q
  exact ⟨F, [], M, Qw, Ew, .nil, S, t, kq, kx⟩

def insW (M : Mh) : W → Option (Nat × List Str)
  | .obj c ns _ => some (c, ns)
  | .ref a => match M a with
    | some (.ins c fs) => some (c, fs.map (·.1))
    | _ => none
  | _ => none
def lookN : List Str → List W → Str → Option W
  | n :: ns, w :: ws, f => if f = n then some w else lookN ns ws f
  | _, _, _ => none
def lookF : List (Str × W) → Str → Option W
  | (n, w) :: fs, f => if f = n then some w else lookF fs f
  | [], _ => none
def fldW (M : Mh) : W → Str → Option W
  | .obj _ ns ws, f => lookN ns ws f
  | .ref a, f => match M a with
    | some (.ins _ fs) => lookF fs f
    | _ => none
  | _, _ => none
section
variable {F : Addr → Prop} {H : Hp} {M : Mh}
theorem lookup_cons' {α : Type} (f n : Str) (v : α) (r : List (Str × α)) : ((n, v) :: r).lookup f = if f = n then some v else r.lookup f := by
  by_cases e : f = n
  · subst e; rw [if_pos rfl]; simp [List.lookup]
  · rw [if_neg e]
    have : (f == n) = false := beq_eq_false_iff_ne.mpr e
    simp [List.lookup, this]
theorem RF.names : ∀ {fs : List (Str × W)} {us : List (Str × V)}, RF T F H fs us → fs.map (·.1) = us.map (·.1)
  | [], _, h => by rw [show _ = _ from h]; rfl
  | (n, w) :: fs, _, h => by
    obtain ⟨v, r, rfl, _, h2⟩ := h
    rw [List.map_cons, List.map_cons, RF.names h2]
theorem RF.look : ∀ {fs : List (Str × W)} {us : List (Str × V)} {f : Str} {w : W}, RF T F H fs us → lookF fs f = some w → ∃ v, us.lookup f = some v ∧ RW T F H w v
  | [], _, _, _, _, e => by cases e
  | (n, w) :: fs, _, f, x, h, e => by
    obtain ⟨v, r, rfl, h1, h2⟩ := h
    rw [lookup_cons']
    unfold lookF at e
    by_cases q : f = n
    · rw [if_pos q] at e ⊢; cases e; exact ⟨v, rfl, h1⟩
    · rw [if_neg q] at e ⊢; exact RF.look h2 e
theorem RWs.look : ∀ {us : List (Str × V)} {ws : List W} {f : Str} {w : W}, RWs T F H ws (us.map (·.2)) → lookN (us.map (·.1)) ws f = some w → ∃ v, us.lookup f = some v ∧ RW T F H w v
  | [], _, _, _, _, e => by cases e
  | (n, v) :: us, ws, f, x, h, e => by
    cases ws with
    | nil => simp [lookN] at e
    | cons w ws =>
      obtain ⟨v', r, e1, h1, h2⟩ := RWs.cons_.mp h
      rw [List.map_cons] at e1
      injection e1 with e1 e2
      subst e1 e2
      rw [lookup_cons']
      rw [List.map_cons] at e
      unfold lookN at e
      by_cases q : f = n
      · rw [if_pos q] at e ⊢; cases e; exact ⟨_, rfl, h1⟩
      · rw [if_neg q] at e ⊢; exact RWs.look h2 e
theorem lookup_none {f : Str} : ∀ {us : List (Str × V)}, f ∉ us.map (·.1) → us.lookup f = none
  | [], _ => rfl
  | (n, v) :: us, h => by
    rw [lookup_cons', if_neg (fun e => h (by rw [e]; exact List.mem_cons_self ..))]
    exact lookup_none fun z => h (List.mem_cons_of_mem _ z)
theorem insW_ok (S : Sim T F H M) {x : W} {v : V} {c : Nat} {ns : List Str} (r : RW T F H x v) (h : insW M x = some (c, ns)) : ∃ a dx us, v = .ref a ∧ H a = some (.ins (T.cls c) dx us) ∧ ns = us.map (·.1) := by
  cases x with
  | obj c' ns' ws =>
    cases h
    obtain ⟨a, dx, us, rfl, _, e, en, _⟩ := RW.obj_.mp r
    exact ⟨a, dx, us, rfl, e, en⟩
  | ref a =>
    unfold insW at h
    simp only at h
    cases e : M a with
    | none => rw [e] at h; cases h
    | some o => cases o with
      | ins c' fs =>
        rw [e] at h; cases h
        obtain ⟨_, ho, e1, dx, us, rfl, r1⟩ := S.ob a _ e
        exact ⟨a, dx, us, RW.ref_.mp r, e1, r1.names⟩
      | lst _ => rw [e] at h; cases h
      | dk _ => rw [e] at h; cases h
      | dt _ => rw [e] at h; cases h
  | _ => cases h
theorem fldW_ok (S : Sim T F H M) {x : W} {v : V} {f : Str} {w : W} (r : RW T F H x v) (h : fldW M x f = some w) : ∃ a c dx us u, v = .ref a ∧ H a = some (.ins (T.cls c) dx us) ∧ us.lookup f = some u ∧ RW T F H w u := by
  cases x with
  | obj c' ns' ws =>
    obtain ⟨a, dx, us, rfl, _, e, en, r1⟩ := RW.obj_.mp r
    subst en
    obtain ⟨u, h1, h2⟩ := RWs.look r1 h
    exact ⟨a, c', dx, us, u, rfl, e, h1, h2⟩
  | ref a =>
    unfold fldW at h
    simp only at h
    cases e : M a with
    | none => rw [e] at h; cases h
    | some o => cases o with
      | ins c' fs =>
        rw [e] at h
        obtain ⟨_, ho, e1, dx, us, rfl, r1⟩ := S.ob a _ e
        obtain ⟨u, h1, h2⟩ := RF.look r1 h
        exact ⟨a, c', dx, us, u, RW.ref_.mp r, e1, h1, h2⟩
      | lst _ => rw [e] at h; cases h
      | dk _ => rw [e] at h; cases h
      | dt _ => rw [e] at h; cases h
  | _ => cases h
end
structure ClF (T : Tb) (X : Cx) (fields : List Str) : Prop where
  cl : ∀ c, Cls X.K (T.cls c)
  no : ∀ c, ∀ f ∈ fields, NoAttr X.K (T.cls c) f
def dAttr (τ : DE) (f : Str) : DE := fun σ M Q Ex => τ σ M (fun x M1 => ∃ w, fldW M1 x f = some w ∧ Q w M1) Ex
theorem ae_attr {fields : List Str} {o : Expr} {f : Str} {pos : Pos} {τ : DE} (hc : ClF T X fields) (hf : f ∈ fields) (ho : PE X o (cE T E τ)) (hb : plainBase o = true) : PE X (.Attribute o f pos) (cE T E (dAttr τ f)) := PE.imp (pe_fld ho (base_of hb)) fun σ H Q q => by
  obtain ⟨F, σw, M, Qw, Ew, rs, S, t, kq, kx⟩ := q
  refine ⟨F, σw, M, _, Ew, rs, S, t, fun x M1 v H1 F1 e1 r1 S1 ⟨w, h1, q⟩ => ?_, kx⟩
  obtain ⟨a, c, dx, us, u, rfl, h2, h3, h4⟩ := fldW_ok S1 r1 h1
  exact ⟨a, T.cls c, dx, us, u, rfl, h2, hc.cl c, hc.no c f hf, h3, kq _ _ _ _ _ e1 h4 S1 q⟩
def MeF (T : Tb) (X : Cx) (n : Nat) (c : Nat) (m : Str) (p : Wp) : Prop := ∃ f fd ps, Meth X.K (T.cls c) m f ∧ Binds X.K fd ps [] ∧ FnOk X.prog X.w X.K X.mg X.base (L2.CX X.prog X.w) n f fd ps (cP T p)
def dMeth (me : Nat → Option Wp) (m : Str) (τ : DE) (ρ : DA) : DE := fun σ M Q Ex => τ σ M (fun x M1 => ∃ c ns p, insW M1 x = some (c, ns) ∧ m ∉ ns ∧ me c = some p ∧ ρ σ M1 (fun ws M2 => p (x :: ws) M2 Q Ex) Ex) Ex
theorem few_of {cpos : Pos} {es : List Expr} {env : Env} {n : Nat} (h : es.all noStar = true) (hn : n < 29) : methodCallForm n (backTo cpos (starEach es env)) (backToKw cpos (keywordEach [] env)) = true := by
  unfold methodCallForm
  have h1 : (backTo cpos (starEach es env)).all (!·.1) = true := star_every h
  rw [h1]
  have : backToKw cpos (keywordEach [] env) = [] := rfl
  rw [this]
  simp
  omega
theorem meth_ht {o : Expr} {m : Str} {apos pos : Pos} {es : List Expr} {env : Env} (hb : plainBase o = true) (hl : (apos.endLine == pos.line) = true) (hs : es.all noStar = true) (hn : es.length < 29) :
    eval (.Call (.Attribute o m apos) es [] pos) env = (do
      let ov ← eval o env
      standAt apos.atName
      let (f, first) ← holding [ov] (getMethod ov m (do return (← importBound o env).getD true))
      callWith pos f first (backTo pos (starEach es env)) (backToKw pos (keywordEach [] env))) := by
  have e : eval (.Call (.Attribute o m apos) es [] pos) env = (do
      let ov ← attributeBase o m env (eval o env)
      standAt apos.atName
      methodCall o m apos pos env ov (es.length + 0) (backTo pos (starEach es env)) (backToKw pos (keywordEach [] env))) := rfl
  rw [e, base_of hb]
  unfold methodCall methodCallPos calleeOf
  rw [few_of (n := es.length + 0) hs hn, hl]
  rfl
theorem ae_meth {n : Nat} {fields : List Str} {me : Nat → Option Wp} {m : Str} {o e : Expr} {es : List Expr} {τ : DE} {ρ : DA} {apos pos : Pos} (hc : ClF T X fields) (hm : ∀ c p, me c = some p → MeF T X n c m p) (hr : Room n X.A) (hx : Passes (L2.CX X.prog X.w) X E)
    (ho : PE X o (cE T E τ)) (ha : PA X (e :: es) (cA T E ρ)) (hb : plainBase o = true) (hl : (apos.endLine == pos.line) = true) (hs : (e :: es).all noStar = true) (hn : (e :: es).length < 29) :
    PE X (.Call (.Attribute o m apos) (e :: es) [] pos) (cE T E (dMeth me m τ ρ)) := by
  refine ⟨fun pins s σ H Q I q => ?_⟩
  obtain ⟨F, σw, M, Qw, Ew, rs, S, t, kq, kx⟩ := q
  have hq : cE T E τ σ H fun v H1 => ∃ F1 x M1 c ns p, Ext F H F1 H1 ∧ RW T F1 H1 x v ∧ Sim T F1 H1 M1 ∧ insW M1 x = some (c, ns) ∧ m ∉ ns ∧ me c = some p ∧ ρ σw M1 (fun ws M2 => p (x :: ws) M2 Qw Ew) Ew :=
    ⟨F, σw, M, _, Ew, rs, S, t, fun x M1 v H1 F1 e1 r1 S1 ⟨c, ns, p, h1, h2, h3, h4⟩ => ⟨F1, x, M1, c, ns, p, e1, r1, S1, h1, h2, h3, h4⟩, kx⟩
  refine PySem.W.methodCall_KW (thn (ho.run pins s σ H _ I hq) fun u s1 ⟨v, H1, I1, rx, F1, x, M1, c, ns, p, e1, r1, S1, h1, h2, h3, h4⟩ => ?_) (meth_ht hb hl hs hn)
  obtain ⟨f, fd, ps, hme, hbi, Fk⟩ := hm c p h3
  obtain ⟨a, dx, us, rfl, h5, h6⟩ := insW_ok S1 r1 h1
  subst h6
  obtain rfl : u = Value.ref a := rx
  refine getmeth_ok I1 h5 (hc.cl c) hme (lookup_none h2) ?_
  rw [List.all_cons, Bool.and_eq_true] at hs
  have hA : cA T E ρ σ H1 fun vs H2 => ∃ F2 ws M2, Ext F1 H1 F2 H2 ∧ RWs T F2 H2 ws vs ∧ Sim T F2 H2 M2 ∧ p (x :: ws) M2 Qw Ew :=
    ⟨F1, σw, M1, _, Ew, rs.ext e1, S1, h4, fun ws M2 vs H2 F2 e2 r2 S2 q => ⟨F2, ws, M2, e2, r2, S2, q⟩, kx.ext e1⟩
  refine PySem.W.callWith_K (first := [.ref a]) (h₀ := X.base) I.ok.mod.kin hme.kp (thn (ha.run pos pins s1 σ H1 _ I1 hA) fun us' s2 ⟨vs, H2, I2, r, F2, ws, M2, e2, r2, S2, q2⟩ => ⟨I2.kIn, ?_⟩) (star_cons hs.1) (star_any hs.2)
  refine run_fn (dvs := []) (ds := []) (us := .ref a :: us') (vs := .ref a :: vs) Fk hr hbi .nil hx I2 (.cons rfl r) ?_
  rw [List.append_nil]
  exact ⟨F2, x :: ws, M2, Qw, Ew, .cons (r1.ext e2) r2, S2, q2, KQ.of kq (e1.trans e2), kx.ext (e1.trans e2)⟩
theorem ae_meth0 {n : Nat} {fields : List Str} {me : Nat → Option Wp} {m : Str} {o : Expr} {τ : DE} {apos pos : Pos} (hc : ClF T X fields) (hm : ∀ c p, me c = some p → MeF T X n c m p) (hr : Room n X.A) (hx : Passes (L2.CX X.prog X.w) X E)
    (ho : PE X o (cE T E τ)) (hb : plainBase o = true) (hl : (apos.endLine == pos.line) = true) :
    PE X (.Call (.Attribute o m apos) [] [] pos) (cE T E (dMeth me m τ dNil)) := by
  refine ⟨fun pins s σ H Q I q => ?_⟩
  obtain ⟨F, σw, M, Qw, Ew, rs, S, t, kq, kx⟩ := q
  have hq : cE T E τ σ H fun v H1 => ∃ F1 x M1 c ns p, Ext F H F1 H1 ∧ RW T F1 H1 x v ∧ Sim T F1 H1 M1 ∧ insW M1 x = some (c, ns) ∧ m ∉ ns ∧ me c = some p ∧ p [x] M1 Qw Ew :=
    ⟨F, σw, M, _, Ew, rs, S, t, fun x M1 v H1 F1 e1 r1 S1 ⟨c, ns, p, h1, h2, h3, h4⟩ => ⟨F1, x, M1, c, ns, p, e1, r1, S1, h1, h2, h3, h4⟩, kx⟩
  refine PySem.W.methodCall_KW (thn (ho.run pins s σ H _ I hq) fun u s1 ⟨v, H1, I1, rx, F1, x, M1, c, ns, p, e1, r1, S1, h1, h2, h3, h4⟩ => ?_) (meth_ht hb hl (es := []) rfl (by decide))
  obtain ⟨f, fd, ps, hme, hbi, Fk⟩ := hm c p h3
  obtain ⟨a, dx, us, rfl, h5, h6⟩ := insW_ok S1 r1 h1
  subst h6
  obtain rfl : u = Value.ref a := rx
  refine getmeth_ok I1 h5 (hc.cl c) hme (lookup_none h2) ?_
  refine PySem.W.callWith_K0 (first := [.ref a]) I1.kIn hme.kp (run_fn (dvs := []) (ds := []) (us := [.ref a]) (vs := [.ref a]) Fk hr hbi .nil hx I1 (.cons rfl .nil) ?_)
  rw [List.append_nil]
  exact ⟨F1, [x], M1, Qw, Ew, .cons r1 .nil, S1, h4, KQ.of kq e1, kx.ext e1⟩
def MkF (T : Tb) (X : Cx) (n : Nat) (c : Nat) (x : Str) (p : Wp) : Prop := X.mg x = some (.ref (T.cls c)) ∧ ∃ f fd ps, Mk X.K (T.cls c) f ∧ Binds X.K fd ps [] ∧ FnOk X.prog X.w X.K X.mg X.base (L2.CX X.prog X.w) n f fd ps (cP T p)
def mdel (M : Mh) (a : Addr) : Mh := fun b => if b = a then none else M b
theorem mdel_mup {M : Mh} {a : Addr} {o : MO} (h : M a = none) : mdel (mup M a o) a = M := by
  funext b
  unfold mdel mup
  by_cases e : b = a
  · rw [if_pos e, e, h]
  · rw [if_neg e, if_neg e]
def insQ (own : Bool) (c : Nat) (x : Addr) (M : Mh) (Q : QW) : Prop := match own with
  | true => Q (.ref x) M
  | false => ∃ fs, M x = some (.ins c fs) ∧ Q (.obj c (fs.map (·.1)) (fs.map (·.2))) (mdel M x)
def dNew (own : Bool) (c : Nat) (p : Wp) (ρ : DA) : DE := fun σ M Q Ex => ρ σ M (fun ws M1 => ∀ x, M1 x = none → p (.ref x :: ws) (mup M1 x (.ins c [])) (fun v M2 => v = .non ∧ insQ own c x M2 Q) Ex) Ex
theorem RF.vals {F : Addr → Prop} {H : Hp} : ∀ {fs : List (Str × W)} {us : List (Str × V)}, RF T F H fs us → RWs T F H (fs.map (·.2)) (us.map (·.2))
  | [], _, h => by rw [show _ = _ from h]; exact .nil
  | (n, w) :: fs, _, h => by
    obtain ⟨v, r, rfl, h1, h2⟩ := h
    exact .cons h1 (RF.vals h2)
theorem Sim.freeze {F : Addr → Prop} {H : Hp} {M : Mh} {a : Addr} {u : MO} (S : Sim T F H M) (h : M a = some u) : Ext F H (fun b => F b ∨ b = a) H ∧ Sim T (fun b => F b ∨ b = a) H (mdel M a) := by
  have e : Ext F H (fun b => F b ∨ b = a) H := ⟨fun b f => ⟨.inl f, rfl⟩, fun _ _ q => q, fun _ _ _ q => q⟩
  refine ⟨e, ⟨fun b o q => ?_, fun b f => ?_⟩⟩
  · unfold mdel at q
    by_cases hb : b = a
    · rw [if_pos hb] at q; cases q
    · rw [if_neg hb] at q
      obtain ⟨nf, ho, q1, q2⟩ := S.ob b o q
      exact ⟨fun z => z.elim nf hb, ho, q1, q2.ext e⟩
  · rcases f with f | rfl
    · exact S.fz b f
    · obtain ⟨_, ho, q1, q2⟩ := S.ob b u h
      refine ⟨ho, q1, ?_⟩
      cases u with
      | lst ws => obtain ⟨vs, rfl, _⟩ := q2; trivial
      | dk ws => obtain ⟨vs, rfl, _⟩ := q2; trivial
      | dt ws => obtain ⟨vs, rfl, _⟩ := q2; trivial
      | ins c fs => obtain ⟨dx, vs, rfl, _⟩ := q2; trivial
theorem KQ.ins {F : Addr → Prop} {H : Hp} {M : Mh} {Qw : QW} {Q : VK} {own : Bool} {c : Nat} {x : Addr} (k : KQ T F H Qw Q) (S : Sim T F H M) (q : insQ own c x M Qw) : Q (.ref x) H := by
  cases own with
  | true => exact k.now S (RW.ref_.mpr rfl) q
  | false =>
    obtain ⟨fs, h, q⟩ := q
    obtain ⟨e, S'⟩ := S.freeze h
    obtain ⟨_, ho, q1, dx, us, rfl, r⟩ := S.ob x _ h
    exact k _ _ _ _ _ e (RW.obj_.mpr ⟨x, dx, us, rfl, .inr rfl, q1, r.names, (r.ext e).vals⟩) S' q
theorem Sim.newI {F : Addr → Prop} {H : Hp} {M : Mh} (S : Sim T F H M) {x dx : Addr} {c : Nat} (h1 : H x = none) (h2 : H dx = none) (ne : dx ≠ x) :
    Ext F H F (upd (upd H dx (.own x)) x (.ins (T.cls c) dx [])) ∧ Sim T F (upd (upd H dx (.own x)) x (.ins (T.cls c) dx [])) (mup M x (.ins c [])) := by
  have n1 := S.fresh h1
  have n2 := S.fresh h2
  have e1 := ext_new (o := .own x) h2 n2.2
  have S1 : Sim T F (upd H dx (.own x)) M := ⟨fun a o q => by
    obtain ⟨f, ho, q1, q2⟩ := S.ob a o q
    exact ⟨f, ho, by rw [upd_ne (m_ne q n2.1)]; exact q1, q2.ext e1⟩, fun a f => by
    obtain ⟨ho, q1, q2⟩ := S.fz a f
    exact ⟨ho, by rw [(e1.fz a f).2]; exact q1, q2⟩⟩
  obtain ⟨e2, S2⟩ := S1.newM (p := x) (o := .ins (T.cls c) dx []) (u := .ins c []) (by rw [upd_ne (Ne.symm ne)]; exact h1) ⟨dx, [], rfl, rfl⟩
  exact ⟨e1.trans e2, S2⟩
theorem ce_new {own : Bool} {c : Nat} {p : Wp} {ρ : DA} {σ : L2.St} {H : Hp} {Q : VK} (q : cE T E (dNew own c p ρ) σ H Q) : tMake (T.cls c) (cP T p) [] E (cA T E ρ) σ H Q := by
  obtain ⟨F, σw, M, Qw, Ew, rs, S, t, kq, kx⟩ := q
  refine ⟨F, σw, M, _, Ew, rs, S, t, fun ws M1 vs H1 F1 e1 r1 S1 q => ?_, kx⟩
  intro x dx hx hdx ne
  rw [List.append_nil]
  obtain ⟨e2, S2⟩ := S1.newI (c := c) hx hdx ne
  refine ⟨F1, .ref x :: ws, _, _, Ew, .cons (RW.ref_.mpr rfl) (r1.ext e2), S2, q x (S1.fresh hx).1, fun w M2 v H2 F2 e3 r3 S3 q3 => ?_, kx.ext (e1.trans e2)⟩
  obtain ⟨ew, q3⟩ := q3
  subst ew
  exact ⟨RW.non_.mp r3, (KQ.of kq ((e1.trans e2).trans e3)).ins S3 q3⟩
theorem ae_new {n : Nat} {own : Bool} {c : Nat} {x : Str} {p : Wp} {e : Expr} {es : List Expr} {ρ : DA} {q pos : Pos} (h : MkF T X n c x p) (hr : Room (n + 1) X.A) (hx : Passes (L2.CX X.prog X.w) X E) (hg : Gl X x) (hn : okName x = true) (ha : PA X (e :: es) (cA T E ρ)) (hs : (e :: es).all noStar = true) :
    PE X (.Call (.Name x q) (e :: es) [] pos) (cE T E (dNew own c p ρ)) := by
  obtain ⟨hm, f, fd, ps, hk, hb, F⟩ := h
  rw [List.all_cons, Bool.and_eq_true] at hs
  exact PE.imp (pe_make hk F hr hg hm hb .nil hx ha (okName_of hn).1 (star_cons hs.1) (star_any hs.2)) fun σ H Q q => ce_new q
theorem ae_new0 {n : Nat} {own : Bool} {c : Nat} {x : Str} {p : Wp} {q pos : Pos} (h : MkF T X n c x p) (hr : Room (n + 1) X.A) (hx : Passes (L2.CX X.prog X.w) X E) (hg : Gl X x) (hn : okName x = true) :
    PE X (.Call (.Name x q) [] [] pos) (cE T E (dNew own c p dNil)) := by
  obtain ⟨hm, f, fd, ps, hk, hb, F⟩ := h
  refine PE.imp (pe_make0 hk F hr hg hm hb .nil hx (okName_of hn).1) fun σ H Q q => ?_
  obtain ⟨F, σw, M, Qw, Ew, rs, S, t, kq, kx⟩ := q
  intro x dx hx hdx ne
  obtain ⟨e2, S2⟩ := S.newI (c := c) hx hdx ne
  refine ⟨F, [.ref x], _, _, Ew, .cons (RW.ref_.mpr rfl) .nil, S2, t x (S.fresh hx).1, fun w M2 v H2 F2 e3 r3 S3 q3 => ?_, kx.ext e2⟩
  obtain ⟨ew, q3⟩ := q3
  subst ew
  exact ⟨RW.non_.mp r3, (KQ.of kq (e2.trans e3)).ins S3 q3⟩
end WL
namespace WL
open PySem PySem.Spec PyProof.Rows L2
variable {T : Tb} {X : Cx} {E : XK}

inductive Ty where
  | non | bl | int | str | lst | tup | dct
  deriving DecidableEq
def Ty.name : Ty → String
  | .non => "NoneType" | .bl => "bool" | .int => "int" | .str => "str" | .lst => "list" | .tup => "tuple" | .dct => "dict"
def tyW (M : Mh) : W → Option Ty
  | .non => some .non
  | .bl _ => some .bl
  | .int _ => some .int
  | .str _ => some .str
  | .tup _ => some .tup
  | .lst _ => some .lst
  | .dk _ _ => some .dct
  | .dt _ _ => some .dct
  | .ref a => match M a with
    | some (.lst _) => some .lst
    | some (.dk _) => some .dct
    | some (.dt _) => some .dct
    | _ => none
  | _ => none
def Ty.sub : Ty → Ty → Bool
  | .bl, .int => true
  | a, b => decide (a = b)
theorem Ty.kit {K : PySem.W.Frag} (a b : Ty) : PySem.W.kitOne K (.type a.name) (.type b.name) = some (a.sub b) := by
  cases a <;> cases b <;> exact kit_ty (by decide +kernel)
theorem tyW_ok {F : Addr → Prop} {H : Hp} {M : Mh} (S : Sim T F H M) {x : W} {v : V} {t : Ty} (r : RW T F H x v) (h : tyW M x = some t) : TyX T.K H v (.type t.name) := by
  cases x with
  | non => cases h; rw [RW.non_.mp r]; exact .base .non
  | bl b => cases h; rw [RW.bl_.mp r]; exact .base (.bl b)
  | int b => cases h; rw [RW.int_.mp r]; exact .base (.int b)
  | str b => cases h; rw [RW.str_.mp r]; exact .base (.str b)
  | tup ws =>
    cases h
    obtain ⟨a, vs, rfl, e, _⟩ := RW.tup_.mp r
    rcases e with (e | ⟨o, e⟩) | ⟨o, its, n, hk, hc, _⟩
    · exact .base (.tup e)
    · exact .fTuple e
    · exact .kTuple hk hc
  | lst ws =>
    cases h
    obtain ⟨a, vs, rfl, _, e, _⟩ := RW.lst_.mp r
    exact .base (.lst e)
  | dk ks ws =>
    cases h
    obtain ⟨a, kvs, rfl, _, e, _⟩ := RW.dk_.mp r
    exact .base (.dK e)
  | dt ks ws =>
    cases h
    obtain ⟨a, kvs, rfl, _, e, _⟩ := RW.dt_.mp r
    exact .base (.dT e)
  | ref a =>
    unfold tyW at h
    simp only at h
    rw [RW.ref_.mp r]
    cases e : M a with
    | none => rw [e] at h; cases h
    | some o => cases o with
      | lst ws =>
        rw [e] at h; cases h
        obtain ⟨_, vs, q, _⟩ := S.lst e
        exact .base (.lst q)
      | dk ws =>
        rw [e] at h; cases h
        obtain ⟨_, ho, q, us, rfl, _⟩ := S.ob a _ e
        exact .base (.dK q)
      | dt ws =>
        rw [e] at h; cases h
        obtain ⟨_, ho, q, us, rfl, _⟩ := S.ob a _ e
        exact .base (.dT q)
      | ins _ _ => rw [e] at h; cases h
  | _ => cases h
def dIsi (t : Ty) (τ : DE) : DE := fun σ M Q Ex => τ σ M (fun x M1 => ∃ s, tyW M1 x = some s ∧ Q (.bl (s.sub t)) M1) Ex
def bltTy (X : Cx) (n : String) : Prop := Gl X (Str.ofString n) ∧ X.mg (Str.ofString n) = none
def Ty.asName : Ty → Option Str
  | .bl => some "bool" | .int => some "int" | .str => some "str" | .lst => some "list" | .tup => some "tuple" | .dct => some "dict" | .non => none
theorem Ty.boot {t : Ty} {x : Str} (h : t.asName = some x) : bootBuiltins x = some (.type t.name) := by
  cases t <;> (cases h) <;> decide +kernel
theorem Ty.okn {t : Ty} {x : Str} (h : t.asName = some x) : x ≠ "__name__" ∧ (x == ("__debug__" : Str)) = false := by
  cases t <;> (cases h) <;> exact ⟨by decide, by decide⟩
theorem ae_isi {t : Ty} {x : Str} {e : Expr} {τ : DE} {p q pos : Pos} (hK : X.K = T.K) (h1 : Gl X "isinstance") (h2 : X.mg "isinstance" = none) (hx : t.asName = some x) (h3 : Gl X x) (h4 : X.mg x = none) (he : PE X e (cE T E τ)) (hs : noStar e = true) :
    PE X (.Call (.Name "isinstance" p) [e, .Name x q] [] pos) (cE T E (dIsi t τ)) := by
  have hn := Ty.okn hx
  have hv : PE X (.Name x q) (tC (.ty t.name)) := pe_bltn h3 h4 (Ty.boot hx) rfl hn.1 hn.2
  refine PE.imp (pe_callB call_isi h1 h2 (by decide +kernel) (pa_cons he (pa_cons hv pa_nil (star_cons rfl)) (star_cons hs)) (by decide) (by decide) (star_cons hs) (star_any rfl)) fun σ H Q r => ?_
  obtain ⟨F, σw, M, Qw, Ew, rs, S, t', kq, kx⟩ := r
  refine ⟨F, σw, M, _, Ew, rs, S, t', fun y M1 v H1 F1 e1 r1 S1 ⟨s, h5, q⟩ => ?_, kx⟩
  refine ⟨v, .ty t.name, .type s.name, .type t.name, s.sub t, rfl, .ty _, ?_, s.kit t, kq _ _ _ _ _ e1 (RW.bl_.mpr rfl) S1 q⟩
  rw [hK]
  exact tyW_ok S1 r1 h5
def dIsi2 (t u : Ty) (τ : DE) : DE := fun σ M Q Ex => τ σ M (fun x M1 => ∃ s, tyW M1 x = some s ∧ Q (.bl (s.sub t || s.sub u)) M1) Ex
theorem ae_isi2 {t u : Ty} {x y : Str} {e : Expr} {τ : DE} {k : Nat} {p q q2 q3 pos : Pos} (hK : X.K = T.K) (h1 : Gl X "isinstance") (h2 : X.mg "isinstance" = none) (hx : t.asName = some x) (h3 : Gl X x) (h4 : X.mg x = none) (hy : u.asName = some y) (h5 : Gl X y) (h6 : X.mg y = none)
    (he : PE X e (cE T E τ)) (hs : noStar e = true) : PE X (.Call (.Name "isinstance" p) [e, .Tuple [.Name x q, .Name y q2] k q3] [] pos) (cE T E (dIsi2 t u τ)) := by
  have hn := Ty.okn hx
  have hn2 := Ty.okn hy
  have hv : PE X (.Name x q) (tC (.ty t.name)) := pe_bltn h3 h4 (Ty.boot hx) rfl hn.1 hn.2
  have hv2 : PE X (.Name y q2) (tC (.ty u.name)) := pe_bltn h5 h6 (Ty.boot hy) rfl hn2.1 hn2.2
  have hT := pe_tup (X := X) (x1 := k) (pos := q3) (pa_cons hv (pa_cons hv2 pa_nil (star_cons rfl)) (star_cons rfl))
  refine PE.imp (pe_callB call_isiT h1 h2 (by decide +kernel) (pa_cons he (pa_cons hT pa_nil (star_cons rfl)) (star_cons hs)) (by decide) (by decide) (star_cons hs) (star_any rfl)) fun σ H Q r => ?_
  obtain ⟨F, σw, M, Qw, Ew, rs, S, t', kq, kx⟩ := r
  refine ⟨F, σw, M, _, Ew, rs, S, t', fun z M1 v H1 F1 e1 r1 S1 ⟨s, h7, q⟩ => ?_, kx⟩
  refine ⟨by show 2 ≤ sizeLine; decide, fun tp htp => ?_⟩
  obtain ⟨e2, S2⟩ := S1.newT (vs := [.ty t.name, .ty u.name]) htp
  refine ⟨v, tp, _, .type s.name, [.type t.name, .type u.name], s.sub t || s.sub u, rfl, upd_same, .cons (.ty _) (.cons (.ty _) .nil), ?_, ?_, kq _ _ _ _ _ (e1.trans e2) (RW.bl_.mpr rfl) S2 q⟩
  · rw [hK]
    exact tyW_ok S2 (r1.ext e2) h7
  · refine kitAny_cons (s.kit t) (fun z => ?_) (fun z => by rw [z]; rfl)
    refine kitAny_cons (s.kit u) (fun z2 => ?_) (fun z2 => by rw [z2]; simp)
    rw [z, z2]
    exact kitAny_nil

def iSeqD (τ : DE) : DI := fun σ M K Ex => τ σ M (fun x M1 => ∃ us G, walkW M1 x us G ∧ K us G M1) Ex
theorem ai_seq {tg e : Expr} {τ : DE} (hK : X.K = T.K) (he : PE X e (cE T E τ)) : PI X tg e (cI T E (iSeqD τ)) := PI.imp (pi_sq he) fun σ H R q => by
  rw [hK]
  obtain ⟨F, σw, M, Rw, Ew, rs, S, t, kq, kx⟩ := q
  refine ⟨F, σw, M, _, Ew, rs, S, t, fun x M1 v H1 F1 e1 r1 S1 ⟨us, G, h1, q⟩ => ?_, kx⟩
  obtain ⟨g, h2⟩ := walk_w S1 r1 h1
  rcases h2 with ⟨a, rfl, h3, k⟩ | ⟨a, rfl, h3, k⟩ | ⟨z, rfl, k⟩
  · exact .inl ⟨a, rfl, h3, kq _ _ _ _ _ _ e1 S1 g k q⟩
  · exact .inr (.inl ⟨a, rfl, h3, kq _ _ _ _ _ _ e1 S1 g k q⟩)
  · exact .inr (.inr ⟨z, rfl, kq _ _ _ _ _ _ e1 S1 g k q⟩)
def iRg1 (τ : DE) : DI := fun σ M K Ex => τ σ M (fun x M1 => ∃ j, x = .int j ∧ (-(2 ^ 62) ≤ j ∧ j < 2 ^ 62) ∧ K (rangeL 0 j) (fun _ => True) M1) Ex
theorem ai_rg1 {tg e : Expr} {τ : DE} {p pos : Pos} (hg : Gl X "range") (hm : X.mg "range" = none) (he : PE X e (cE T E τ)) (hs : noStar e = true) : PI X tg (.Call (.Name "range" p) [e] [] pos) (cI T E (iRg1 τ)) :=
  PI.imp (pi_range1 hg hm (pa_cons he pa_nil (star_cons hs)) (star_cons hs)) fun σ H R q => by
  obtain ⟨F, σw, M, Rw, Ew, rs, S, t, kq, kx⟩ := q
  refine ⟨F, σw, M, _, Ew, rs, S, t, fun x M1 v H1 F1 e1 r1 S1 ⟨j, ej, h1, q⟩ => ?_, kx⟩
  subst ej
  have k := wk_rng (T := T) (F := F1) (H := H1) (lo := 0) (hi := j) (G := fun _ => True)
  rw [Int.sub_zero] at k
  exact ⟨j, by rw [RW.int_.mp r1], h1.1, h1.2, kq _ _ _ _ _ _ e1 S1 trivial k q⟩
def iRg2 (τ τ' : DE) : DI := fun σ M K Ex => τ σ M (fun x M1 => τ' σ M1 (fun y M2 => ∃ i j, x = .int i ∧ y = .int j ∧ (-(2 ^ 62) ≤ i ∧ i < 2 ^ 62 ∧ -(2 ^ 62) ≤ j ∧ j < 2 ^ 62) ∧ K (rangeL i j) (fun _ => True) M2) Ex) Ex
theorem ai_rg2 {tg e e' : Expr} {τ τ' : DE} {p pos : Pos} (hg : Gl X "range") (hm : X.mg "range" = none) (he : PE X e (cE T E τ)) (he' : PE X e' (cE T E τ')) (hs : noStar e = true) (hs' : noStar e' = true) : PI X tg (.Call (.Name "range" p) [e, e'] [] pos) (cI T E (iRg2 τ τ')) :=
  PI.imp (pi_range2 hg hm (pa_cons he (pa_cons he' pa_nil (star_cons hs')) (star_cons hs)) (by rw [star_cons hs, star_cons hs']; rfl) (by rw [star_cons hs']; rfl)) fun σ H R q => by
  obtain ⟨F, σw, M, Rw, Ew, rs, S, t, kq, kx⟩ := q
  refine ⟨F, σw, M, _, Ew, rs, S, t, fun x M1 v H1 F1 e1 r1 S1 q => ?_, kx⟩
  refine ⟨F1, σw, M1, _, Ew, rs.ext e1, S1, q, fun y M2 u H2 F2 e2 r2 S2 q => ?_, kx.ext e1⟩
  obtain ⟨i, j, ei, ej, h1, q'⟩ := q
  subst ei ej
  exact ⟨i, j, by rw [RW.int_.mp r1, RW.int_.mp r2], h1, kq _ _ _ _ _ _ (e1.trans e2) S2 trivial wk_rng q'⟩
def iZip (τ τ' : DE) : DI := fun σ M K Ex => τ σ M (fun x M1 => τ' σ M1 (fun y M2 => ∃ ws z, x = .tup ws ∧ y = .str z ∧ K (pairs ws (signs z)) (fun _ => True) M2) Ex) Ex
theorem ai_zip {e e' : Expr} {elts : List Expr} {kk : Nat} {tpos : Pos} {τ τ' : DE} {p pos : Pos} (hK : X.K = T.K) (hg : Gl X "zip") (hm : X.mg "zip" = none) (he : PE X e (cE T E τ)) (he' : PE X e' (cE T E τ')) (hs : noStar e = true) (hs' : noStar e' = true) : PI X (.Tuple elts kk tpos) (.Call (.Name "zip" p) [e, e'] [] pos) (cI T E (iZip τ τ')) :=
  PI.imp (pi_zipS hg hm (pa_cons he (pa_cons he' pa_nil (star_cons hs')) (star_cons hs)) (star_cons hs) (star_any (by simp [hs']))) fun σ H R q => by
  rw [hK]
  obtain ⟨F, σw, M, Rw, Ew, rs, S, t, kq, kx⟩ := q
  refine ⟨F, σw, M, _, Ew, rs, S, t, fun x M1 v H1 F1 e1 r1 S1 q => ?_, kx⟩
  refine ⟨F1, σw, M1, _, Ew, rs.ext e1, S1, q, fun y M2 u H2 F2 e2 r2 S2 q => ?_, kx.ext e1⟩
  obtain ⟨ws, z, ex, ey, q'⟩ := q
  subst ex ey
  obtain ⟨a, vs, rfl, h1, h2⟩ := RW.tup_.mp r1
  exact ⟨a, z, vs, by rw [RW.str_.mp r2], e2.sqt h1, kq _ _ _ _ _ _ (e1.trans e2) S2 trivial (wk_zipS (e2.sqt h1) (h2.ext e2)) q'⟩
def iEnumD (τ : DE) : DI := fun σ M K Ex => τ σ M (fun x M1 => ∃ ws, lv M1 x = some ws ∧ (∃ us, x = .lst us) ∧ K (enums 0 ws) (fun _ => True) M1) Ex
theorem ai_enum {e : Expr} {elts : List Expr} {kk : Nat} {tpos : Pos} {τ : DE} {p pos : Pos} (hK : X.K = T.K) (hg : Gl X "enumerate") (hm : X.mg "enumerate" = none) (he : PE X e (cE T E τ)) (hs : noStar e = true) : PI X (.Tuple elts kk tpos) (.Call (.Name "enumerate" p) [e] [] pos) (cI T E (iEnumD τ)) :=
  PI.imp (pi_enum hg hm (pa_cons he pa_nil (star_cons hs)) (star_cons hs)) fun σ H R q => by
  rw [hK]
  obtain ⟨F, σw, M, Rw, Ew, rs, S, t, kq, kx⟩ := q
  refine ⟨F, σw, M, _, Ew, rs, S, t, fun x M1 v H1 F1 e1 r1 S1 ⟨ws, h1, ⟨us, ex⟩, q⟩ => ?_, kx⟩
  subst ex
  cases h1
  obtain ⟨a, vs, rfl, f, h2, h3⟩ := RW.lst_.mp r1
  exact ⟨a, vs, rfl, .of h2, kq _ _ _ _ _ _ e1 S1 trivial (wk_enum fun F' H' M' x _ _ => ⟨vs, .of ((x.fz a f).2.trans h2), h3.ext x⟩) q⟩

inductive Tg where
  | name (i : Nat)
  | tup (is : List Nat)
def setAll : List Nat → List W → Sw → Sw
  | i :: is, w :: ws, σ => setAll is ws (σ.set i (some w))
  | _, _, σ => σ
def Tg.asg : Tg → W → Sw → Option Sw
  | .name i, w, σ => some (σ.set i (some w))
  | .tup is, .tup ws, σ => if is.length = ws.length then some (setAll is ws σ) else none
  | .tup _, _, _ => none
def Tg.slots : Tg → List Nat
  | .name i => [i]
  | .tup is => is
def cG (T : Tb) (g : Tg) : TG := fun v σ H Q => ∃ F w σw σw', RW T F H w v ∧ RS T F H σw σ ∧ σw.length ≤ σ.length ∧ g.asg w σw = some σw' ∧
  ∀ σ', RS T F H σw' σ' → σw'.length ≤ σ'.length → (∀ vs : List Nat, (∀ i ∈ g.slots, i ∈ vs) → wipe σ' vs = wipe σ vs) → Q σ' H
theorem wipe_set {σ : L2.St} {i : Nat} {x : Option V} : ∀ {vs : List Nat}, i ∈ vs → wipe (σ.set i x) vs = wipe σ vs
  | [], h => by simp at h
  | v :: vs, h => by
    unfold wipe
    by_cases e : i ∈ vs
    · rw [wipe_set e]
    · have ev : i = v := by
        rcases List.mem_cons.mp h with h | h
        · exact h
        · exact absurd h e
      subst ev
      have key : ∀ (vs : List Nat) (σ : L2.St), i ∉ vs → wipe (σ.set i x) vs = (wipe σ vs).set i x := by
        intro vs
        induction vs with
        | nil => intro σ _; rfl
        | cons u us ih =>
          intro σ hn
          unfold wipe
          rw [ih σ (fun z => hn (List.mem_cons_of_mem _ z)), List.set_comm]
          exact fun z => hn (by rw [z]; exact List.mem_cons_self ..)
      rw [key vs σ e, List.set_set]
def gSlots : List Nat → TGs
  | [] => gNil
  | i :: is => gCons (gName i) (gSlots is)
theorem gSlots_ok {F : Addr → Prop} {H : Hp} {Q : L2.St → Hp → Prop} : ∀ {is : List Nat} {ws : List W} {vs : List V} {σw : Sw} {σ : L2.St}, RWs T F H ws vs → RS T F H σw σ → σw.length ≤ σ.length → is.length = ws.length →
    (∀ σ', RS T F H (setAll is ws σw) σ' → (setAll is ws σw).length ≤ σ'.length → (∀ us : List Nat, (∀ i ∈ is, i ∈ us) → wipe σ' us = wipe σ us) → Q σ' H) → gSlots is vs σ H Q
  | [], [], _, _, σ, r, rs, hl, _, k => ⟨RWs.nil_.mp r, k σ rs hl fun _ _ => rfl⟩
  | [], _ :: _, _, _, _, _, _, _, h, _ => by simp at h
  | _ :: _, [], _, _, _, _, _, _, h, _ => by simp at h
  | i :: is, w :: ws, _, σw, σ, r, rs, hl, h, k => by
    obtain ⟨v, s, rfl, r1, r2⟩ := RWs.cons_.mp r
    refine ⟨v, s, rfl, gSlots_ok r2 (rs.set hl i r1) (by simpa using hl) (by simpa using h) fun σ' a b c => k σ' a b fun us hu => ?_⟩
    rw [c us fun j hj => hu j (List.mem_cons_of_mem _ hj), wipe_set (hu i (List.mem_cons_self ..))]
theorem ag_name {i : Nat} {x : Str} {pos : Pos} (hN : X.N.Nodup) (hi : X.N[i]? = some x) (hx : Loc X.env.scope x) (hf : X.fn x = true ∨ X.env.scope.names.lookup x = some .local) : PG X (.Name x pos) (cG T (.name i)) :=
  ⟨fun pins s σ H v u Q I r ⟨F, w, σw, σw', rw', rs, hl, ha, k⟩ => by
    cases ha
    exact (pg_name hN hi hx hf).run pins s σ H v u Q I r (k _ (rs.set hl i rw') (by simpa using hl) fun vs h => wipe_set (h i (by simp [Tg.slots])))⟩
def isName : Expr → Bool
  | .Name .. => true
  | _ => false
theorem asgEach_cons {e : Expr} {es : List Expr} {env : Env} (h : isName e = true) : assignEach (e :: es) env = (false, assign e env) :: assignEach es env := by
  cases e <;> first | rfl | cases h
theorem asgEach_names {env : Env} : ∀ {es : List Expr}, es.all isName = true → (assignEach es env).length = es.length ∧ (assignEach es env).findIdx? (·.1) = none
  | [], _ => ⟨rfl, rfl⟩
  | e :: es, h => by
    rw [List.all_cons, Bool.and_eq_true] at h
    obtain ⟨h1, h2⟩ := asgEach_names (env := env) h.2
    rw [asgEach_cons h.1]
    refine ⟨by rw [List.length_cons, List.length_cons, h1], ?_⟩
    rw [List.findIdx?_cons]
    simp [h2]
theorem pgs_slots : ∀ {es : List Expr} {is : List Nat}, es.all isName = true → Paired (fun (e : Expr) (i : Nat) => PG X e (gName i)) es is → PGs X es (gSlots is)
  | _, _, _, .nil => pgs_nil
  | e :: es, _, h, .cons h1 h2 => by
    rw [List.all_cons, Bool.and_eq_true] at h
    exact pgs_cons h1 (pgs_slots h.2 h2) (by rw [asgEach_cons h.1]; rfl)
theorem ag_tup {es : List Expr} {is : List Nat} {k : Nat} {pos : Pos} (hK : X.K = T.K) (hc : X.calm = true) (hn : es.all isName = true) (h : Paired (fun (e : Expr) (i : Nat) => PG X e (gName i)) es is) :
    PG X (.Tuple es k pos) (cG T (.tup is)) := by
  have hl : es.length = is.length := Paired.length h
  have ha := asgEach_names (env := X.env) hn
  have P : PG X (.Tuple es k pos) (gTup X.K es.length (gSlots is)) := pg_tup hc (pgs_slots hn h) ha.1 ha.2
  refine ⟨fun pins s σ H v u Q I r ⟨F, w, σw, σw', rw', rs, hz, ha, kk⟩ => P.run pins s σ H v u Q I r ?_⟩
  cases w with
  | tup ws =>
    obtain ⟨a, vs, rfl, h1, h2⟩ := RW.tup_.mp rw'
    unfold Tg.asg at ha
    by_cases hlen : is.length = ws.length
    · simp only [if_pos hlen] at ha
      cases ha
      refine ⟨a, vs, rfl, by rw [hK]; exact h1, by rw [← h2.length, ← hlen, hl], gSlots_ok h2 rs hz hlen fun σ' a b c => kk σ' a b c⟩
    · simp only [if_neg hlen] at ha
      cases ha
  | _ => cases ha

theorem ps_nx {D : Ends} {f : L2.St → Hp → Prop} : True := trivial
def dAsg (τ : DE) (g : Tg) : DS := fun D σ M => τ σ M (fun w M1 => ∃ σ', g.asg w σ = some σ' ∧ D.nx σ' M1) D.ex
theorem cs_asg {τ : DE} {g : Tg} {D : Ends} {σ : L2.St} {H : Hp} (q : cS T E (dAsg τ g) D σ H) : tAsg (cE T E τ) (cG T g) D σ H := by
  obtain ⟨F, σw, M, Dv, rs, hl, S, t, k1, _, _, _, kx⟩ := q
  refine ⟨F, σw, M, _, Dv.ex, rs, S, t, fun w M1 v H1 F1 e1 r1 S1 ⟨σ', h1, q⟩ => ?_, kx⟩
  exact ⟨F1, w, σw, σ', r1, rs.ext e1, hl, h1, fun σ2 a b _ => k1 σ' M1 σ2 H1 F1 e1 a b S1 q⟩
theorem one_asg {tg : Expr} {env : Env} (h : noStar tg = true) : (assignEach [tg] env).map (·.2) = [assign tg env] := by
  cases tg <;> first | rfl | cases h
theorem as_asg {tg e : Expr} {τ : DE} {g : Tg} {pos : Pos} (hn : noStar tg = true) (he : PE X e (cE T E τ)) (hg : PG X tg (cG T g)) (hs : swapsWith e (some tg) pos.line X.env = pure false) (hw : swappedStores [tg] e X.env = pure none) : PS X (.Assign [tg] e pos) (cS T E (dAsg τ g)) :=
  PS.imp (ps_asg he hg (show swapsWith e (some tg) pos.line X.env = pure false from hs) hw (h1 := one_asg hn)) fun D σ H q => cs_asg q
def dExpr (τ : DE) : DS := fun D σ M => τ σ M (fun _ M1 => D.nx σ M1) D.ex
theorem as_expr {e : Expr} {τ : DE} {pos : Pos} (he : PE X e (cE T E τ)) (hs : noComp e = true) : PS X (.Expr e pos) (cS T E (dExpr τ)) := PS.imp (ps_expr he (swaps_of hs)) fun D σ H q => by
  obtain ⟨F, σw, M, Dv, rs, hl, S, t, k1, _, _, _, kx⟩ := q
  exact ⟨F, σw, M, _, Dv.ex, rs, S, t, fun w M1 v H1 F1 e1 r1 S1 q => k1 σw M1 σ H1 F1 e1 (rs.ext e1) hl S1 q, kx⟩
def dRet (τ : DE) : DS := fun D σ M => τ σ M D.rt D.ex
theorem as_ret {e : Expr} {τ : DE} {pos : Pos} (he : PE X e (cE T E τ)) : PS X (.Return (some e) pos) (cS T E (dRet τ)) := PS.imp (ps_ret he) fun D σ H q => by
  obtain ⟨F, σw, M, Dv, rs, hl, S, t, _, k2, _, _, kx⟩ := q
  exact ⟨F, σw, M, _, Dv.ex, rs, S, t, k2, kx⟩
def dNext : DS := fun D σ M => D.nx σ M
def dSeq (a b : DS) : DS := fun D σ M => a { D with nx := b D } σ M
theorem ass_nil : PSs X [] (cS T E dNext) := PSs.imp pss_nil fun D σ H q => by
  obtain ⟨F, σw, M, Dv, rs, hl, S, t, k1, _, _, _, kx⟩ := q
  exact k1 σw M σ H F .refl rs hl S t
theorem ass_cons {st : Stmt} {rest : List Stmt} {a b : DS} (h1 : PS X st (cS T E a)) (h2 : PSs X rest (cS T E b)) : PSs X (st :: rest) (cS T E (dSeq a b)) := PSs.imp (pss_cons h1 h2) fun D σ H q => by
  obtain ⟨F, σw, M, Dv, rs, hl, S, t, k1, k2, k3, k4, kx⟩ := q
  refine ⟨F, σw, M, { Dv with nx := b Dv }, rs, hl, S, t, fun σ1 M1 σ' H1 F1 e1 r1 l1 S1 q => ?_, k2, k3, k4, kx⟩
  exact ⟨F1, σ1, M1, Dv, r1, l1, S1, q, fun a b c d f x => k1 a b c d f (e1.trans x), fun a b c d f x => k2 a b c d f (e1.trans x), fun a b c d f x => k3 a b c d f (e1.trans x), fun a b c d f x => k4 a b c d f (e1.trans x), kx.ext e1⟩
def dIf (t : DT) (a b : DS) : DS := fun D σ M => t σ M (fun c M1 => if c = true then a D σ M1 else b D σ M1) D.ex
theorem as_if {c : Expr} {as bs : List Stmt} {t : DT} {a b : DS} {pos : Pos} (hc : PT X c (cT T E t)) (ha : PSs X as (cS T E a)) (hb : PSs X bs (cS T E b)) : PS X (.If c as bs pos) (cS T E (dIf t a b)) := PS.imp (ps_if hc ha hb) fun D σ H q => by
  obtain ⟨F, σw, M, Dv, rs, hl, S, t, k1, k2, k3, k4, kx⟩ := q
  refine ⟨F, σw, M, _, Dv.ex, rs, S, t, fun c M1 H1 F1 e1 S1 q => ?_, kx⟩
  cases c with
  | true =>
    rw [if_pos rfl] at q ⊢
    exact ⟨F1, σw, M1, Dv, rs.ext e1, hl, S1, q, fun a b c d f x => k1 a b c d f (e1.trans x), fun a b c d f x => k2 a b c d f (e1.trans x), fun a b c d f x => k3 a b c d f (e1.trans x), fun a b c d f x => k4 a b c d f (e1.trans x), kx.ext e1⟩
  | false =>
    rw [if_neg Bool.false_ne_true] at q ⊢
    exact ⟨F1, σw, M1, Dv, rs.ext e1, hl, S1, q, fun a b c d f x => k1 a b c d f (e1.trans x), fun a b c d f x => k2 a b c d f (e1.trans x), fun a b c d f x => k3 a b c d f (e1.trans x), fun a b c d f x => k4 a b c d f (e1.trans x), kx.ext e1⟩
def dNever : DS := fun _ _ _ => False
theorem as_never {st : Stmt} : PS X st (cS T E dNever) := PS.imp ps_never fun D σ H q => by
  obtain ⟨F, σw, M, Dv, rs, hl, S, t, _⟩ := q
  exact t.elim
def putW (f : Str) (w : W) : List (Str × W) → List (Str × W)
  | [] => [(f, w)]
  | (n, u) :: fs => if n = f then (n, w) :: fs else (n, u) :: putW f w fs
def dFld (τo τ : DE) (f : Str) : DS := fun D σ M => τ σ M (fun y M1 => τo σ M1 (fun x M2 => ∃ a c fs, x = .ref a ∧ M2 a = some (.ins c fs) ∧ fs.length < 1000 ∧ D.nx σ (mup M2 a (.ins c (putW f y fs)))) D.ex) D.ex
theorem RF.put {F : Addr → Prop} {H : Hp} {f : Str} {w : W} {v : V} (r : RW T F H w v) : ∀ {fs : List (Str × W)} {us : List (Str × V)}, RF T F H fs us → RF T F H (putW f w fs) (putF f v us)
  | [], _, h => by rw [show _ = _ from h]; exact ⟨v, [], rfl, r, rfl⟩
  | (n, w') :: fs, _, h => by
    obtain ⟨v', s, rfl, h1, h2⟩ := h
    unfold putW putF
    by_cases e : n = f
    · rw [if_pos e, if_pos e]; exact ⟨v, s, rfl, r, h2⟩
    · rw [if_neg e, if_neg e]; exact ⟨v', _, rfl, h1, RF.put r h2⟩
theorem as_fld {fields : List Str} {o e : Expr} {f : Str} {τo τ : DE} {p pos : Pos} (hK : X.K = T.K) (hc : ClF T X fields) (hf : f ∈ fields) (ho : PE X o (cE T E τo)) (he : PE X e (cE T E τ)) (hs : swapsWith e (some (.Attribute o f p)) pos.line X.env = pure false) :
    PS X (.Assign [.Attribute o f p] e pos) (cS T E (dFld τo τ f)) := PS.imp (ps_fld ho he hs) fun D σ H q => by
  obtain ⟨F, σw, M, Dv, rs, hl, S, t, k1, k2, k3, k4, kx⟩ := q
  refine ⟨F, σw, M, _, Dv.ex, rs, S, t, fun y M1 u H1 F1 e1 r1 S1 q => ?_, kx⟩
  refine ⟨F1, σw, M1, _, Dv.ex, rs.ext e1, S1, q, fun x M2 v H2 F2 e2 r2 S2 q => ?_, kx.ext e1⟩
  obtain ⟨a, c, fs, ex, h1, h2, q⟩ := q
  subst ex
  obtain ⟨_, ho, h3, dx, us, rfl, h4⟩ := S2.ob a _ h1
  obtain ⟨e3, S3⟩ := S2.put (o := .ins (T.cls c) dx (putF f u us)) (u := .ins c (putW f y fs)) h1 ⟨dx, _, rfl, RF.put (r1.ext e2) h4⟩
  have e := (e1.trans e2).trans e3
  refine ⟨a, T.cls c, dx, us, RW.ref_.mp r2, h3, hc.cl c, hc.no c f hf, ?_, k1 _ _ _ _ _ e (rs.ext e) hl S3 q⟩
  have := congrArg List.length h4.names
  rw [List.length_map, List.length_map] at this
  omega
def dSet (τo τi τ : DE) : DS := fun D σ M => τ σ M (fun y M1 => τo σ M1 (fun x M2 => τi σ M2 (fun z M3 => ∃ a ws i j, x = .ref a ∧ z = .int i ∧ M3 a = some (.lst ws) ∧ ixN ws.length i = some j ∧ D.nx σ (mup M3 a (.lst (ws.set j y)))) D.ex) D.ex) D.ex
theorem as_set {o i e : Expr} {τo τi τ : DE} {p pos : Pos} (ho : PE X o (cE T E τo)) (hi : PE X i (cE T E τi)) (he : PE X e (cE T E τ)) (hs : swapsWith e (some (.Subscript o i p)) pos.line X.env = pure false) (hst : PG X (.Subscript o i p) (gSub (cE T E τo) (cE T E τi) rSetL)) :
    PS X (.Assign [.Subscript o i p] e pos) (cS T E (dSet τo τi τ)) := PS.imp (ps_asg he hst hs (by cases e <;> rfl)) fun D σ H q => by
  obtain ⟨F, σw, M, Dv, rs, hl, S, t, k1, k2, k3, k4, kx⟩ := q
  refine ⟨F, σw, M, _, Dv.ex, rs, S, t, fun y M1 u H1 F1 e1 r1 S1 q => ?_, kx⟩
  refine ⟨F1, σw, M1, _, Dv.ex, rs.ext e1, S1, q, fun x M2 v H2 F2 e2 r2 S2 q => ?_, kx.ext e1⟩
  refine ⟨F2, σw, M2, _, Dv.ex, (rs.ext e1).ext e2, S2, q, fun z M3 v3 H3 F3 e3 r3 S3 q => ?_, (kx.ext e1).ext e2⟩
  obtain ⟨a, ws, n, j, ex, ez, h1, h2, q'⟩ := q
  subst ex ez
  obtain ⟨_, us, h3, h4⟩ := S3.lst h1
  obtain ⟨e4, S4⟩ := S3.put (o := .lst (us.set j u)) (u := .lst (ws.set j y)) h1 ⟨_, rfl, h4.set j ((r1.ext e2).ext e3)⟩
  have e := ((e1.trans e2).trans e3).trans e4
  exact ⟨a, us, n, j, RW.ref_.mp r2, RW.int_.mp r3, h3, by rw [← h4.length]; exact h2, k1 _ _ _ _ _ e (rs.ext e) hl S4 q'⟩
def forW (G : Mh → Prop) (g : Tg) (body : DS) : List W → DS
  | [], D, σ, M => D.nx σ M
  | x :: xs, D, σ, M => ∃ σ', g.asg x σ = some σ' ∧ body { nx := fun σ2 M2 => G M2 ∧ forW G g body xs D σ2 M2, rt := D.rt, bk := D.nx, ct := fun σ2 M2 => G M2 ∧ forW G g body xs D σ2 M2, ex := D.ex } σ' M
def dFor (ι : DI) (g : Tg) (body : DS) : DS := fun D σ M => ι σ M (fun ws G M1 => forW G g body ws D σ M1) D.ex
theorem as_for {tg iter : Expr} {sts : List Stmt} {ι : DI} {g : Tg} {body : DS} {pos : Pos} (hp : PassesOwn (model X.prog X.w) X.A X.env X.xe) (hc : X.calm = true) (hi : PI X tg iter (cI T E ι)) (hg : PG X tg (cG T g)) (hb : PSs X sts (cS T E body)) (hs : noSet iter = true) :
    PS X (.For tg iter sts [] pos) (cS T E (dFor ι g body)) := PS.imp (ps_for hp hc hi hg hb (folded_of hs)) fun D σ H q => by
  obtain ⟨F, σw, M, Dv, rs, hl, S, t, k1, k2, k3, k4, kx⟩ := q
  refine ⟨F, σw, M, _, Dv.ex, rs, S, t, fun ws G M1 J H1 F1 e1 S1 g1 wk q => ?_, kx⟩
  refine ⟨fun i m σ' H' => m = ws.length - i ∧ i ≤ ws.length ∧ ∃ F' σw' M', Ext F1 H1 F' H' ∧ RS T F' H' σw' σ' ∧ σw'.length ≤ σ'.length ∧ Sim T F' H' M' ∧ G M' ∧ forW G g body (ws.drop i) Dv σw' M',
    ⟨ws.length, by simp, Nat.zero_le _, F1, σw, M1, .refl, rs.ext e1, hl, S1, g1, q⟩, ?_⟩
  rintro i m σ' H' ⟨rfl, hi, F', σw', M', e2, rs2, hl2, S2, g2, q2⟩
  by_cases hlt : i < ws.length
  · refine .inr ⟨wk.go F' H' M' i e2 S2 g2 hlt, fun σ2 H2 => i + 1 ≤ ws.length ∧ ∃ F2 σw2 M2, Ext F1 H1 F2 H2 ∧ RS T F2 H2 σw2 σ2 ∧ σw2.length ≤ σ2.length ∧ Sim T F2 H2 M2 ∧ G M2 ∧ forW G g body (ws.drop (i + 1)) Dv σw2 M2,
      fun σ2 H2 ⟨a, b⟩ => ⟨ws.length - (i + 1), by omega, rfl, a, b⟩, fun x H2 y => ?_⟩
    obtain ⟨F2, e3, S3, r3⟩ := wk.yld F' H' M' i (ws[i]) x H2 e2 S2 g2 (List.getElem?_eq_getElem hlt) y
    rw [List.drop_eq_getElem_cons hlt] at q2
    obtain ⟨σn, h1, q3⟩ := q2
    refine ⟨F2, ws[i], σw', σn, r3, rs2.ext e3, hl2, h1, fun σ3 a b _ => ?_⟩
    have e4 := e1.trans (e2.trans e3)
    refine ⟨F2, σn, M', _, a, b, S3, q3, fun σ5 M5 σ6 H6 F6 e6 r6 l6 S6 ⟨gg, q6⟩ => ⟨hlt, F6, σ5, M5, (e2.trans e3).trans e6, r6, l6, S6, gg, q6⟩, fun a b c d f x => k2 a b c d f (e4.trans x), fun a b c d f x => k1 a b c d f (e4.trans x), fun σ5 M5 σ6 H6 F6 e6 r6 l6 S6 ⟨gg, q6⟩ => ⟨hlt, F6, σ5, M5, (e2.trans e3).trans e6, r6, l6, S6, gg, q6⟩, kx.ext e4⟩
  · have : i = ws.length := by omega
    subst this
    rw [List.drop_length] at q2
    exact .inl ⟨wk.stop F' H' M' _ e2 S2 g2 (Nat.le_refl _), k1 _ _ _ _ _ (e1.trans e2) rs2 hl2 S2 q2⟩
def whileW (t : DT) (body : DS) : Nat → DS
  | 0, _, _, _ => False
  | n + 1, D, σ, M => t σ M (fun b M1 => if b = true then body { nx := whileW t body n D, rt := D.rt, bk := D.nx, ct := whileW t body n D, ex := D.ex } σ M1 else D.nx σ M1) D.ex
def dWhile (t : DT) (body : DS) : DS := fun D σ M => ∃ n, whileW t body n D σ M
theorem as_while {c : Expr} {sts : List Stmt} {t : DT} {body : DS} {pos : Pos} (hp : PassesOwn (model X.prog X.w) X.A X.env X.xe) (hc : PT X c (cT T E t)) (hb : PSs X sts (cS T E body)) : PS X (.While c sts [] pos) (cS T E (dWhile t body)) := PS.imp (ps_while hp hc hb) fun D σ H q => by
  obtain ⟨F, σw, M, Dv, rs, hl, S, ⟨n, t⟩, k1, k2, k3, k4, kx⟩ := q
  refine ⟨fun m σ' H' => ∃ F' σw' M', Ext F H F' H' ∧ RS T F' H' σw' σ' ∧ σw'.length ≤ σ'.length ∧ Sim T F' H' M' ∧ whileW _ body m Dv σw' M', ⟨n, F, σw, M, .refl, rs, hl, S, t⟩, ?_⟩
  rintro m σ' H' ⟨F', σw', M', e1, rs1, hl1, S1, q⟩
  cases m with
  | zero => exact q.elim
  | succ m =>
    refine ⟨F', σw', M', _, Dv.ex, rs1, S1, q, fun b M2 H2 F2 e2 S2 q => ?_, kx.ext e1⟩
    have e := e1.trans e2
    cases b with
    | false =>
      rw [if_neg Bool.false_ne_true] at q
      exact k1 _ _ _ _ _ e (rs1.ext e2) hl1 S2 q
    | true =>
      rw [if_pos rfl] at q
      refine ⟨fun σ3 H3 => ∃ F3 σw3 M3, Ext F H F3 H3 ∧ RS T F3 H3 σw3 σ3 ∧ σw3.length ≤ σ3.length ∧ Sim T F3 H3 M3 ∧ whileW _ body m Dv σw3 M3, fun σ3 H3 h => ⟨m, Nat.lt_succ_self _, h⟩, ?_⟩
      exact ⟨F2, σw', M2, _, rs1.ext e2, hl1, S2, q, fun σ5 M5 σ6 H6 F6 e6 r6 l6 S6 q6 => ⟨F6, σ5, M5, e.trans e6, r6, l6, S6, q6⟩, fun a b c d f x => k2 a b c d f (e.trans x), fun a b c d f x => k1 a b c d f (e.trans x), fun σ5 M5 σ6 H6 F6 e6 r6 l6 S6 q6 => ⟨F6, σ5, M5, e.trans e6, r6, l6, S6, q6⟩, kx.ext e⟩
end WL
namespace WL
open PySem PySem.Spec PyProof.Rows L2
variable {T : Tb} {X : Cx} {E : XK}
abbrev noX : QX := fun _ _ => False
def E0w : XK := fun _ _ _ => False
theorem noX_k {T : Tb} {F : Addr → Prop} {H : Hp} : ExK T E0w F H noX := fun _ _ _ _ _ _ _ _ _ q => q.elim
def finL (own : Bool) (D : Addr) (acc : List W) (M : Mh) (Q : QW) : Prop := M D = some (.lst acc) ∧ match own with
  | true => Q (.ref D) M
  | false => Q (.lst acc) (mdel M D)
def lcW (own : Bool) (G : Mh → Prop) (g : Tg) (tt : DT) (te : DE) (D : Addr) (σ : Sw) : List W → List W → Mh → QW → Prop
  | [], acc, M, Q => finL own D acc M Q
  | x :: xs, acc, M, Q => ∃ σ', g.asg x σ = some σ' ∧ tt σ' M (fun b M1 => M1 D = some (.lst acc) ∧ G M1 ∧
      if b = true then te σ' M1 (fun y M2 => M2 D = some (.lst acc) ∧ G (mup M2 D (.lst (acc ++ [y]))) ∧ lcW own G g tt te D σ xs (acc ++ [y]) (mup M2 D (.lst (acc ++ [y]))) Q) noX
      else lcW own G g tt te D σ xs acc M1 Q) noX
def dLc (own : Bool) (ι : DI) (g : Tg) (tt : DT) (te : DE) (vs : List Nat) : DE := fun σ M Q Ex => ι σ M (fun ws G M1 => ws.length ≤ sizeLine ∧ ∀ D, M1 D = none → G (mup M1 D (.lst [])) ∧
  lcW own G g tt te D (wipeW σ vs) ws [] (mup M1 D (.lst [])) Q) Ex
theorem KQ.fin {F : Addr → Prop} {H : Hp} {M : Mh} {Qw : QW} {Q : VK} {own : Bool} {D : Addr} {acc : List W} (k : KQ T F H Qw Q) (S : Sim T F H M) (q : finL own D acc M Qw) : Q (.ref D) H := by
  obtain ⟨h, q⟩ := q
  cases own with
  | true => exact k.now S (RW.ref_.mpr rfl) q
  | false =>
    obtain ⟨e, S'⟩ := S.freeze h
    obtain ⟨_, vs, q1, r⟩ := S.lst h
    exact k _ _ _ _ _ e (RW.lst_.mpr ⟨D, vs, rfl, .inr rfl, q1, r.ext e⟩) S' q
theorem ce_lc {own : Bool} {ι : DI} {g : Tg} {tt : DT} {te : DE} {vs : List Nat} (hg : ∀ i ∈ g.slots, i ∈ vs) {σ : L2.St} {H : Hp} {Q : VK} (q : cE T E (dLc own ι g tt te vs) σ H Q) :
    tLc (cI T E ι) (cG T g) (cT T E0w tt) (cE T E0w te) vs σ H Q := by
  obtain ⟨F, σw, M, Qw, Ew, rs, S, t, kq, kx⟩ := q
  refine ⟨F, σw, M, _, Ew, rs, S, t, fun ws G M1 J H1 F1 e1 S1 g1 wk q => ?_, kx⟩
  intro D hD
  obtain ⟨hz, q⟩ := q
  have hM := S1.fresh hD
  obtain ⟨g0, q⟩ := q D hM.1
  obtain ⟨eD, SD⟩ := S1.newM (p := D) (o := .lst []) (u := .lst []) hD ⟨[], rfl, .nil⟩
  refine ⟨fun i m H' => m = ws.length - i ∧ i ≤ ws.length ∧ ∃ F' M' acc, Ext F1 H1 F' H' ∧ Sim T F' H' M' ∧ G M' ∧ acc.length ≤ i ∧ lcW own G g tt te D (wipeW σw vs) (ws.drop i) acc M' Qw,
    ⟨ws.length, by simp, Nat.zero_le _, F1, _, [], eD, SD, g0, Nat.le_refl _, q⟩, ?_⟩
  rintro i m H' ⟨rfl, hi, F', M', acc, e2, S2, g2, ha, q2⟩
  by_cases hlt : i < ws.length
  · refine .inr ⟨wk.go F' H' M' i e2 S2 g2 hlt, fun H2 => i + 1 ≤ ws.length ∧ ∃ F2 M2 acc, Ext F1 H1 F2 H2 ∧ Sim T F2 H2 M2 ∧ G M2 ∧ acc.length ≤ i + 1 ∧ lcW own G g tt te D (wipeW σw vs) (ws.drop (i + 1)) acc M2 Qw,
      fun H2 ⟨a, b⟩ => ⟨ws.length - (i + 1), by omega, rfl, a, b⟩, fun x H2 y => ?_⟩
    obtain ⟨F2, e3, S3, r3⟩ := wk.yld F' H' M' i (ws[i]) x H2 e2 S2 g2 (List.getElem?_eq_getElem hlt) y
    rw [List.drop_eq_getElem_cons hlt] at q2
    obtain ⟨σn, h1, q3⟩ := q2
    have e4 := e2.trans e3
    have rsn := ((rs.ext e1).ext e4).wipe vs
    refine ⟨F2, ws[i], wipeW σw vs, σn, r3, rsn, rsn.len, h1, fun σ3 a b c => ⟨?_, ?_⟩⟩
    · rw [c vs hg]
      have key : ∀ (us : List Nat) (σ : L2.St), (∀ i ∈ us, i ∈ vs) → wipe (wipe σ us) vs = wipe σ vs := by
        intro us
        induction us with
        | nil => intro σ _; rfl
        | cons u us ih =>
          intro σ hu
          show wipe ((wipe σ us).set u none) vs = _
          rw [wipe_set (hu u (List.mem_cons_self ..)), ih σ fun i hi => hu i (List.mem_cons_of_mem _ hi)]
      exact key vs σ fun _ h => h
    · refine ⟨F2, σn, M', _, noX, a, S3, q3, fun bb M4 H4 F4 e5 S4 q4 => ?_, noX_k⟩
      obtain ⟨hD4, g4, q4⟩ := q4
      cases bb with
      | false =>
        rw [if_neg Bool.false_ne_true] at q4 ⊢
        exact ⟨hlt, F4, M4, acc, e4.trans e5, S4, g4, by omega, q4⟩
      | true =>
        rw [if_pos rfl] at q4 ⊢
        refine ⟨F4, σn, M4, _, noX, a.ext e5, S4, q4, fun y5 M5 v5 H5 F5 e6 r5 S5 q5 => ?_, noX_k⟩
        obtain ⟨hD5, g5, q5⟩ := q5
        obtain ⟨_, us, h6, h7⟩ := S5.lst hD5
        obtain ⟨e7, S7⟩ := S5.put (o := .lst (us ++ [v5])) (u := .lst (acc ++ [y5])) hD5 ⟨_, rfl, h7.append (.cons r5 .nil)⟩
        refine ⟨us, h6, by rw [← h7.length]; omega, hlt, F5, _, acc ++ [y5], ((e4.trans e5).trans e6).trans e7, S7, g5, by simp; omega, q5⟩
  · have : i = ws.length := by omega
    subst this
    rw [List.drop_length] at q2
    exact .inl ⟨wk.stop F' H' M' _ e2 S2 g2 (Nat.le_refl _), KQ.fin (KQ.of kq (e1.trans e2)) S2 q2⟩
def dYes : DT := fun _ M Q _ => Q true M
theorem at_nil {X : Cx} {E : XK} : PTs X [] (cT T E dYes) := ⟨fun pins s σ H Q I q => by
  obtain ⟨F, σw, M, Qw, Ew, rs, S, t, kq, kx⟩ := q
  exact pts_nil.run pins s σ H Q I (kq true M H F .refl S t)⟩
theorem at_one {X : Cx} {E : XK} {c : Expr} {τ : DT} (h : PT X c (cT T E τ)) : PTs X [c] (cT T E τ) := pts_one h
theorem ae_lc {own : Bool} {elt tg iter : Expr} {ifs : List Expr} {scope : Scope} {ownN : List (Str × Nat)} {pos : Pos} {ι : DI} {g : Tg} {tt : DT} {te : DE} (hc : X.calm = true) (hN : X.N.Nodup) (hi : PI X tg iter (cI T E ι)) (ok : BlkOk X.N X.env.scope scope ownN)
    (hg : ∀ (s : Shared) (H : Hp) (C : Addr) (cl : List (Str × Addr)) (fp : List Addr), PG (X.blk s H scope (compEnvC scope cl C X.env) fp) tg (cG T g)) (ht : ∀ (s : Shared) (H : Hp) (C : Addr) (cl : List (Str × Addr)) (fp : List Addr), PTs (X.blk s H scope (compEnvC scope cl C X.env) fp) ifs (cT T E0w tt))
    (he : ∀ (s : Shared) (H : Hp) (C : Addr) (cl : List (Str × Addr)) (fp : List Addr), PE (X.blk s H scope (compEnvC scope cl C X.env) fp) elt (cE T E0w te)) (hs : noSet iter = true) (hsl : ∀ i ∈ g.slots, i ∈ ownN.map (·.2)) :
    PE X (.ListComp elt [⟨tg, iter, ifs, 0⟩] scope pos) (cE T E (dLc own ι g tt te (ownN.map (·.2)))) :=
  PE.imp (pe_lc hc hN hi ok hg ht he (folded_of hs)) fun σ H Q q => ce_lc hsl q
theorem as_lc {own : Bool} {i : Nat} {y : Str} {py : Pos} {elt tg iter : Expr} {ifs : List Expr} {scope : Scope} {ownN : List (Str × Nat)} {pos spos : Pos} {ι : DI} {g : Tg} {tt : DT} {te : DE} (hc : X.calm = true) (hN : X.N.Nodup) (hy : X.N[i]? = some y) (hyl : X.env.scope.names.lookup y = some .local)
    (hsw : swapsWith (.ListComp elt [⟨tg, iter, ifs, 0⟩] scope pos) (some (.Name y py)) spos.line X.env = pure true) (hi : PI X tg iter (cI T E ι)) (ok : BlkOk X.N X.env.scope scope ownN)
    (hg : ∀ (s : Shared) (H : Hp) (C : Addr) (cl : List (Str × Addr)) (fp : List Addr), PG (X.blk s H scope (compEnvC scope cl C X.env) fp) tg (cG T g)) (ht : ∀ (s : Shared) (H : Hp) (C : Addr) (cl : List (Str × Addr)) (fp : List Addr), PTs (X.blk s H scope (compEnvC scope cl C X.env) fp) ifs (cT T E0w tt))
    (he : ∀ (s : Shared) (H : Hp) (C : Addr) (cl : List (Str × Addr)) (fp : List Addr), PE (X.blk s H scope (compEnvC scope cl C X.env) fp) elt (cE T E0w te)) (hs : noSet iter = true) (hsl : ∀ i ∈ g.slots, i ∈ ownN.map (·.2)) :
    PS X (.Assign [.Name y py] (.ListComp elt [⟨tg, iter, ifs, 0⟩] scope pos) spos) (cS T E (dAsg (dLc own ι g tt te (ownN.map (·.2))) (.name i))) :=
  PS.imp (ps_setLc hc hN hy hyl hsw hi ok hg ht he (folded_of hs)) fun D σ H q => by
  obtain ⟨F, σw, M, Dv, rs, hl, S, t, k1, _, _, _, kx⟩ := q
  refine ce_lc (own := own) (tt := tt) hsl ⟨F, σw, M, _, Dv.ex, rs, S, t, fun w M1 v H1 F1 e1 r1 S1 ⟨σ', h1, q⟩ => ?_, kx⟩
  cases h1
  exact k1 _ M1 _ H1 F1 e1 ((rs.ext e1).set hl i r1) (by simpa using hl) S1 q

def gval {κ α : Type} [DecidableEq κ] (kvs : List (κ × α)) (k : κ) : Option α := match kvs with
  | [] => none
  | (n, v) :: r => if n = k then some v else gval r k
def gput {κ α : Type} [DecidableEq κ] (k : κ) (v : α) (kvs : List (κ × α)) : List (κ × α) :=
  if (kvs.any fun p => decide (p.1 = k)) = true then kvs.map (fun p => if p.1 = k then (p.1, v) else p) else kvs ++ [(k, v)]
def toKey : W → Option Key
  | .int i => some (.inl i)
  | .str x => some (.inr x)
  | _ => none
def toKeys : List W → Option (List Key)
  | [] => some []
  | w :: ws => match toKey w, toKeys ws with
    | some k, some ks => some (k :: ks)
    | _, _ => none
def toKeyT : W → Option (List Key)
  | .tup ws => toKeys ws
  | _ => none
def zipK {κ : Type} : List κ → List W → List (κ × W)
  | k :: ks, w :: ws => (k, w) :: zipK ks ws
  | _, _ => []
def dlook (M : Mh) (d k : W) : Option (Option W) := match d with
  | .dk ks ws => (toKey k).map fun k => gval (zipK ks ws) k
  | .ref a => match M a with
    | some (.dk kvs) => (toKey k).map fun k => gval kvs k
    | _ => none
  | _ => none
section
variable {F : Addr → Prop} {H : Hp} {M : Mh}
theorem toKey_ok {w : W} {v : V} {k : Key} (r : RW T F H w v) (h : toKey w = some k) : v = kV k := by
  cases w with
  | int i => cases h; exact RW.int_.mp r
  | str i => cases h; exact RW.str_.mp r
  | _ => cases h
theorem toKeys_ok : ∀ {ws : List W} {vs : List V} {ks : List Key}, RWs T F H ws vs → toKeys ws = some ks → vs = ks.map kV
  | [], _, _, r, h => by cases h; exact RWs.nil_.mp r
  | w :: ws, _, _, r, h => by
    obtain ⟨v, s, rfl, r1, r2⟩ := RWs.cons_.mp r
    unfold toKeys at h
    cases e1 : toKey w with
    | none => rw [e1] at h; cases h
    | some k => cases e2 : toKeys ws with
      | none => rw [e1, e2] at h; cases h
      | some ks =>
        rw [e1, e2] at h; cases h
        rw [toKey_ok r1 e1, toKeys_ok r2 e2]; rfl
theorem valV_cons {κ : Type} [DecidableEq κ] (n k : κ) (v : V) (r : List (κ × V)) : valV ((n, v) :: r) k = if n = k then some v else valV r k := by
  by_cases e : n = k
  · rw [if_pos e, valV_pos e]
  · rw [if_neg e, valV_neg e]
theorem RK.val {κ : Type} [DecidableEq κ] {k : κ} : ∀ {kvs : List (κ × W)} {us : List (κ × V)}, RK T F H kvs us → (∀ w, gval kvs k = some w → ∃ v, valV us k = some v ∧ RW T F H w v) ∧ (gval kvs k = none → valV us k = none)
  | [], _, h => by rw [show _ = _ from h]; exact ⟨fun _ q => by simp [gval] at q, fun _ => rfl⟩
  | (n, w) :: kvs, _, h => by
    obtain ⟨v, r, rfl, h1, h2⟩ := h
    have ih := RK.val (k := k) h2
    rw [valV_cons]
    unfold gval
    by_cases e : n = k
    · simp only [if_pos e]
      exact ⟨fun x q => by cases q; exact ⟨v, rfl, h1⟩, fun q => nomatch q⟩
    · simp only [if_neg e]
      exact ih
theorem RK.of_zip {κ : Type} : ∀ {us : List (κ × V)} {ws : List W}, RWs T F H ws (us.map (·.2)) → RK T F H (zipK (us.map (·.1)) ws) us
  | [], _, _ => rfl
  | (n, v) :: us, ws, h => by
    cases ws with
    | nil => have := h.length; simp at this
    | cons w ws =>
      obtain ⟨v', r, e, h1, h2⟩ := RWs.cons_.mp h
      rw [List.map_cons] at e
      injection e with e1 e2
      subst e1 e2
      exact ⟨_, _, rfl, h1, RK.of_zip h2⟩
theorem RK.of_ob {kvs : List (Key × W)} {a : Addr} (S : Sim T F H M) (h : M a = some (.dk kvs)) : ∃ us, H a = some (.dK us) ∧ RK T F H kvs us := by
  obtain ⟨_, ho, q, us, rfl, r⟩ := S.ob a _ h
  exact ⟨us, q, r⟩
theorem RK.of_obT {kvs : List (List Key × W)} {a : Addr} (S : Sim T F H M) (h : M a = some (.dt kvs)) : ∃ us, H a = some (.dT us) ∧ RK T F H kvs us := by
  obtain ⟨_, ho, q, us, rfl, r⟩ := S.ob a _ h
  exact ⟨us, q, r⟩
theorem dlook_ok (S : Sim T F H M) {d k : W} {x y : V} {o : Option W} (rd : RW T F H d x) (rk : RW T F H k y) (h : dlook M d k = some o) :
    ∃ a r, x = .ref a ∧ DGet H a y r ∧ (∀ w, o = some w → ∃ v, r = some v ∧ RW T F H w v) ∧ (o = none → r = none) := by
  have K1 : ∀ {a : Addr} {us : List (Key × V)} {kvs : List (Key × W)}, H a = some (.dK us) → RK T F H kvs us → (toKey k).map (fun k => gval kvs k) = some o → ∃ r, DGet H a y r ∧ (∀ w, o = some w → ∃ v, r = some v ∧ RW T F H w v) ∧ (o = none → r = none) := fun {a us kvs} e r h => by
    cases q : toKey k with
    | none => rw [q] at h; cases h
    | some kk =>
      rw [q] at h; cases h
      rw [toKey_ok rk q]
      exact ⟨_, .k e, fun w hw => (RK.val r).1 w hw, fun hw => (RK.val r).2 hw⟩
  cases d with
  | dk ks ws =>
    obtain ⟨a, us, rfl, _, e, rfl, r⟩ := RW.dk_.mp rd
    obtain ⟨q, h1, h2, h3⟩ := K1 e (.of_zip r) h
    exact ⟨a, q, rfl, h1, h2, h3⟩
  | ref a =>
    unfold dlook at h
    simp only at h
    cases e : M a with
    | none => rw [e] at h; cases h
    | some ob => cases ob with
      | dk kvs =>
        rw [e] at h
        obtain ⟨us, q1, q2⟩ := RK.of_ob S e
        obtain ⟨q, h1, h2, h3⟩ := K1 q1 q2 h
        exact ⟨a, q, RW.ref_.mp rd, h1, h2, h3⟩
      | dt kvs => rw [e] at h; cases h
      | lst _ => rw [e] at h; cases h
      | ins _ _ => rw [e] at h; cases h
  | _ => cases h
theorem RK.any {κ : Type} [DecidableEq κ] {k : κ} : ∀ {kvs : List (κ × W)} {us : List (κ × V)}, RK T F H kvs us → (kvs.any fun p => decide (p.1 = k)) = us.any fun p => decide (p.1 = k)
  | [], _, h => by rw [show _ = _ from h]; rfl
  | (n, w) :: kvs, _, h => by
    obtain ⟨v, r, rfl, _, h2⟩ := h
    rw [List.any_cons, List.any_cons, RK.any h2]
theorem RK.repl {κ : Type} [DecidableEq κ] {k : κ} {w : W} {v : V} (r0 : RW T F H w v) : ∀ {kvs : List (κ × W)} {us : List (κ × V)}, RK T F H kvs us → RK T F H (kvs.map fun p => if p.1 = k then (p.1, w) else p) (us.map fun p => if p.1 = k then (p.1, v) else p)
  | [], _, h => by rw [show _ = _ from h]; rfl
  | (n, w') :: kvs, _, h => by
    obtain ⟨v', r, rfl, h1, h2⟩ := h
    rw [List.map_cons, List.map_cons]
    by_cases e : n = k
    · simp only [if_pos e]; exact ⟨v, _, rfl, r0, RK.repl r0 h2⟩
    · simp only [if_neg e]; exact ⟨v', _, rfl, h1, RK.repl r0 h2⟩
theorem RK.snoc {κ : Type} {k : κ} {w : W} {v : V} (r0 : RW T F H w v) : ∀ {kvs : List (κ × W)} {us : List (κ × V)}, RK T F H kvs us → RK T F H (kvs ++ [(k, w)]) (us ++ [(k, v)])
  | [], _, h => by rw [show _ = _ from h]; exact ⟨v, [], rfl, r0, rfl⟩
  | (n, w') :: kvs, _, h => by
    obtain ⟨v', r, rfl, h1, h2⟩ := h
    exact ⟨v', _, rfl, h1, RK.snoc r0 h2⟩
theorem RK.put {κ : Type} [DecidableEq κ] {k : κ} {w : W} {v : V} (r0 : RW T F H w v) {kvs : List (κ × W)} {us : List (κ × V)} (r : RK T F H kvs us) : RK T F H (gput k w kvs) (putK us k v) := by
  unfold gput putK
  rw [r.any]
  split
  · exact r.repl r0
  · exact r.snoc r0
theorem RK.len {κ : Type} : ∀ {kvs : List (κ × W)} {us : List (κ × V)}, RK T F H kvs us → kvs.length = us.length
  | [], _, h => by rw [show _ = _ from h]; rfl
  | (n, w') :: kvs, _, h => by
    obtain ⟨v', r, rfl, h1, h2⟩ := h
    rw [List.length_cons, List.length_cons, RK.len h2]
end
def dDget (τd τk : DE) : DE := fun σ M Q Ex => τd σ M (fun d M1 => τk σ M1 (fun k M2 => ∃ w, dlook M2 d k = some (some w) ∧ Q w M2) Ex) Ex
theorem noSl_of {b : Expr} (h : plainIx b = true) : NoSl b := by
  intro o i
  cases b <;> first | rfl | cases h
theorem ae_dget {o i : Expr} {τd τk : DE} {pos : Pos} (hu : X.A.units + 1 < cLine) (ho : PE X o (cE T E τd)) (hi : PE X i (cE T E τk)) (hs : plainIx i = true) : PE X (.Subscript o i pos) (cE T E (dDget τd τk)) := PE.imp (pe_dget hu ho hi (noSl_of hs)) fun σ H Q q => by
  obtain ⟨F, σw, M, Qw, Ew, rs, S, t, kq, kx⟩ := q
  refine ⟨F, σw, M, _, Ew, rs, S, t, fun d M1 x H1 F1 e1 r1 S1 q => ?_, kx⟩
  refine ⟨F1, σw, M1, _, Ew, rs.ext e1, S1, q, fun k M2 y H2 F2 e2 r2 S2 ⟨w, h1, q'⟩ => ?_, kx.ext e1⟩
  obtain ⟨a, r, rfl, g, h2, _⟩ := dlook_ok S2 (r1.ext e2) r2 h1
  obtain ⟨v, rfl, h3⟩ := h2 w rfl
  exact ⟨a, v, rfl, g, kq _ _ _ _ _ (e1.trans e2) h3 S2 q'⟩
def dDin (neg : Bool) (τk τd : DE) : DE := fun σ M Q Ex => τk σ M (fun k M1 => τd σ M1 (fun d M2 => ∃ o, dlook M2 d k = some o ∧ Q (.bl (if neg then !o.isSome else o.isSome)) M2) Ex) Ex
theorem isSome_of {F : Addr → Prop} {H : Hp} {o : Option W} {r : Option V} (h2 : ∀ w, o = some w → ∃ v, r = some v ∧ RW T F H w v) (h3 : o = none → r = none) : r.isSome = o.isSome := by
  cases o with
  | none => rw [h3 rfl]; rfl
  | some w => obtain ⟨v, rfl, _⟩ := h2 w rfl; rfl
theorem ce_din {neg : Bool} {τk τd : DE} {σ : L2.St} {H : Hp} {Q : VK} (q : cE T E (dDin neg τk τd) σ H Q) : cE T E τk σ H fun y H1 => cE T E τd σ H1 fun x H2 => ∃ a o, x = .ref a ∧ DGet H2 a y o ∧ Q (.bl (if neg then !o.isSome else o.isSome)) H2 := by
  obtain ⟨F, σw, M, Qw, Ew, rs, S, t, kq, kx⟩ := q
  refine ⟨F, σw, M, _, Ew, rs, S, t, fun k M1 y H1 F1 e1 r1 S1 q => ?_, kx⟩
  refine ⟨F1, σw, M1, _, Ew, rs.ext e1, S1, q, fun d M2 x H2 F2 e2 r2 S2 ⟨o, h1, q'⟩ => ?_, kx.ext e1⟩
  obtain ⟨a, r, rfl, g, h2, h3⟩ := dlook_ok S2 r2 (r1.ext e2) h1
  refine ⟨a, r, rfl, g, ?_⟩
  rw [isSome_of h2 h3]
  exact kq _ _ _ _ _ (e1.trans e2) (RW.bl_.mpr rfl) S2 q'
theorem ac_din {i o : Expr} {τk τd : DE} (hu : X.A.units + 1 < cLine) (hi : PE X i (cE T E τk)) (ho : PE X o (cE T E τd)) : PC X .In i o (cE T E (dDin false τk τd)) := ⟨fun pins s σ H Q I q => (pc_din hu hi ho).run pins s σ H Q I (ce_din q)⟩
theorem ac_dnotin {i o : Expr} {τk τd : DE} (hu : X.A.units + 1 < cLine) (hi : PE X i (cE T E τk)) (ho : PE X o (cE T E τd)) : PC X .NotIn i o (cE T E (dDin true τk τd)) := ⟨fun pins s σ H Q I q => (pc_dnotin hu hi ho).run pins s σ H Q I (ce_din q)⟩
theorem ct_pc {op : CmpOp} {a b : Expr} {pos : Pos} {τ : DE} (h : PC X op a b (cE T E τ)) (hm : behindInMarks op b = false) : PT X (.Compare a [op] [b] pos) (cT T E (dB τ)) := PT.imp (pt_cmp h hm) fun σ H Q q => ct_bl (t := cE T E τ) (fun _ _ _ x => x) q
def dDput (τd τk τ : DE) : DS := fun D σ M => τ σ M (fun y M1 => τd σ M1 (fun x M2 => τk σ M2 (fun k M3 => ∃ a kvs kk, x = .ref a ∧ toKey k = some kk ∧ M3 a = some (.dk kvs) ∧ kvs.length < sizeLine ∧ D.nx σ (mup M3 a (.dk (gput kk y kvs)))) D.ex) D.ex) D.ex
theorem as_dput {o i e : Expr} {τd τk τ : DE} {p pos : Pos} (hu : X.A.units + 1 < cLine) (ho : PE X o (cE T E τd)) (hi : PE X i (cE T E τk)) (he : PE X e (cE T E τ)) (hs : swapsWith e (some (.Subscript o i p)) pos.line X.env = pure false) :
    PS X (.Assign [.Subscript o i p] e pos) (cS T E (dDput τd τk τ)) := PS.imp (ps_dput hu ho hi he hs) fun D σ H q => by
  obtain ⟨F, σw, M, Dv, rs, hl, S, t, k1, k2, k3, k4, kx⟩ := q
  refine ⟨F, σw, M, _, Dv.ex, rs, S, t, fun y M1 u H1 F1 e1 r1 S1 q => ?_, kx⟩
  refine ⟨F1, σw, M1, _, Dv.ex, rs.ext e1, S1, q, fun x M2 v H2 F2 e2 r2 S2 q => ?_, kx.ext e1⟩
  refine ⟨F2, σw, M2, _, Dv.ex, (rs.ext e1).ext e2, S2, q, fun k M3 v3 H3 F3 e3 r3 S3 q => ?_, (kx.ext e1).ext e2⟩
  obtain ⟨a, kvs, kk, ex, h0, h1, h2, q'⟩ := q
  subst ex
  obtain ⟨us, h3, h4⟩ := RK.of_ob S3 h1
  obtain ⟨e4, S4⟩ := S3.put (o := .dK (putK us kk u)) (u := .dk (gput kk y kvs)) h1 ⟨_, rfl, h4.put ((r1.ext e2).ext e3)⟩
  have e := ((e1.trans e2).trans e3).trans e4
  refine ⟨a, _, RW.ref_.mp r2, ?_, k1 _ _ _ _ _ e (rs.ext e) hl S4 q'⟩
  rw [toKey_ok r3 h0]
  exact .k h3 (by rw [← h4.len]; exact h2)
def dDnew : DE := fun _ M Q _ => ∀ p, M p = none → Q (.ref p) (mup M p (.dk []))
theorem ae_dnew {pos : Pos} : PE X (.Dict [] [] pos) (cE T E dDnew) := PE.imp pe_dnewK fun σ H Q q => by
  obtain ⟨F, σw, M, Qw, Ew, rs, S, t, kq, kx⟩ := q
  intro p hp
  obtain ⟨e, S'⟩ := S.newM (o := .dK []) (u := .dk []) hp ⟨[], rfl, rfl⟩
  exact kq _ _ _ _ _ e (RW.ref_.mpr rfl) S' (t p (S.fresh hp).1)
def tlook : List (Str × W) → Str → Option W
  | [], _ => none
  | (n, w) :: r, z => if z = n then some w else tlook r z
def KdF (T : Tb) (X : Cx) (x : Str) (tbl : List (Str × W)) : Prop := ∃ d es n, X.mg x = some (.ref d) ∧ KDict X.K X.w d es n ∧
  ∀ z, ∃ r, PySem.W.nsIn X.K d z = some r ∧ (∀ w, tlook tbl z = some w → ∃ u v, r = some u ∧ RelV v u ∧ ∀ F H, RW T F H w v) ∧ (tlook tbl z = none → r = none)
def dKidx (tbl : List (Str × W)) (τ : DE) : DE := fun σ M Q Ex => τ σ M (fun k M1 => ∃ z w, k = .str z ∧ tlook tbl z = some w ∧ Q w M1) Ex
theorem ae_kidx {x : Str} {tbl : List (Str × W)} {i : Expr} {τ : DE} {p pos : Pos} (h : KdF T X x tbl) (hg : Gl X x) (hn : okName x = true) (hi : PE X i (cE T E τ)) (hs : plainIx i = true) : PE X (.Subscript (.Name x p) i pos) (cE T E (dKidx tbl τ)) := by
  obtain ⟨d, es, n, hm, D, hk⟩ := h
  refine PE.imp (pe_ix ix_kdict (pe_glob (v := .ref d) hg hm rfl (okName_of hn).1) hi (ix_of hs)) fun σ H Q q => ?_
  obtain ⟨F, σw, M, Qw, Ew, rs, S, t, kq, kx⟩ := q
  refine ⟨F, σw, M, _, Ew, rs, S, t, fun k M1 y H1 F1 e1 r1 S1 ⟨z, w, ek, h1, q⟩ => ?_, kx⟩
  subst ek
  obtain ⟨r, h2, h3, _⟩ := hk z
  obtain ⟨u, v, rfl, h4, h5⟩ := h3 w h1
  exact ⟨d, z, v, rfl, RW.str_.mp r1, ⟨es, n, u, D.at_, D.lit, h2, h4⟩, kq _ _ _ _ _ e1 (h5 _ _) S1 q⟩
def dKin (neg : Bool) (tbl : List (Str × W)) (τ : DE) : DE := fun σ M Q Ex => τ σ M (fun k M1 => ∃ z, k = .str z ∧ Q (.bl (if neg then !(tlook tbl z).isSome else (tlook tbl z).isSome)) M1) Ex
theorem ce_kin {neg : Bool} {x : Str} {tbl : List (Str × W)} {τ : DE} {d : Addr} (hk : ∀ z, ∃ r, PySem.W.nsIn X.K d z = some r ∧ (∀ w, tlook tbl z = some w → ∃ u v, r = some u ∧ RelV v u ∧ ∀ F H, RW T F H w v) ∧ (tlook tbl z = none → r = none)) {σ : L2.St} {H : Hp} {Q : VK} (q : cE T E (dKin neg tbl τ) σ H Q) :
    tOp (fun x y H Q => ∃ (z : Str) (r : Option Value), x = .str z ∧ y = .ref d ∧ PySem.W.nsIn X.K d z = some r ∧ Q (.bl (if neg then !r.isSome else r.isSome)) H) (cE T E τ) (tC (.ref d)) σ H Q := by
  obtain ⟨F, σw, M, Qw, Ew, rs, S, t, kq, kx⟩ := q
  refine ⟨F, σw, M, _, Ew, rs, S, t, fun k M1 y H1 F1 e1 r1 S1 ⟨z, ek, q⟩ => ?_, kx⟩
  subst ek
  obtain ⟨r, h2, h3, h4⟩ := hk z
  refine ⟨z, r, RW.str_.mp r1, rfl, h2, ?_⟩
  have : r.isSome = (tlook tbl z).isSome := by
    cases e : tlook tbl z with
    | none => rw [h4 e]; rfl
    | some w => obtain ⟨u, v, rfl, _⟩ := h3 w e; rfl
  rw [this]
  exact kq _ _ _ _ _ e1 (RW.bl_.mpr rfl) S1 q
theorem ae_kin {x : Str} {tbl : List (Str × W)} {a : Expr} {τ : DE} {p pos : Pos} (h : KdF T X x tbl) (hg : Gl X x) (hn : okName x = true) (ha : PE X a (cE T E τ)) : PE X (.Compare a [.In] [.Name x p] pos) (cE T E (dKin false tbl τ)) := by
  obtain ⟨d, es, n, hm, D, hk⟩ := h
  exact PE.imp (pe_cmpR (op_in_kd D) ha (pe_glob (v := .ref d) hg hm rfl (okName_of hn).1) rfl) fun σ H Q q => ce_kin (x := x) hk q
theorem ae_knotin {x : Str} {tbl : List (Str × W)} {a : Expr} {τ : DE} {p pos : Pos} (h : KdF T X x tbl) (hg : Gl X x) (hn : okName x = true) (ha : PE X a (cE T E τ)) : PE X (.Compare a [.NotIn] [.Name x p] pos) (cE T E (dKin true tbl τ)) := by
  obtain ⟨d, es, n, hm, D, hk⟩ := h
  exact PE.imp (pe_cmpR (op_notIn_kd D) ha (pe_glob (v := .ref d) hg hm rfl (okName_of hn).1) rfl) fun σ H Q q => ce_kin (x := x) hk q
theorem at_kin {x : Str} {tbl : List (Str × W)} {a : Expr} {τ : DE} {p pos : Pos} (h : KdF T X x tbl) (hg : Gl X x) (hn : okName x = true) (ha : PE X a (cE T E τ)) : PT X (.Compare a [.In] [.Name x p] pos) (cT T E (dB (dKin false tbl τ))) := by
  obtain ⟨d, es, n, hm, D, hk⟩ := h
  exact PT.imp (pt_cmpR (op_in_kd D) ha (pe_glob (v := .ref d) hg hm rfl (okName_of hn).1) rfl) fun σ H Q q => ct_bl (fun _ _ _ q => ce_kin (x := x) hk q) q
theorem at_knotin {x : Str} {tbl : List (Str × W)} {a : Expr} {τ : DE} {p pos : Pos} (h : KdF T X x tbl) (hg : Gl X x) (hn : okName x = true) (ha : PE X a (cE T E τ)) : PT X (.Compare a [.NotIn] [.Name x p] pos) (cT T E (dB (dKin true tbl τ))) := by
  obtain ⟨d, es, n, hm, D, hk⟩ := h
  exact PT.imp (pt_cmpR (op_notIn_kd D) ha (pe_glob (v := .ref d) hg hm rfl (okName_of hn).1) rfl) fun σ H Q q => ct_bl (fun _ _ _ q => ce_kin (x := x) hk q) q
def dKget (tbl : List (Str × W)) (τ : DE) : DE := fun σ M Q Ex => τ σ M (fun k M1 => ∃ z, k = .str z ∧ Q ((tlook tbl z).getD .non) M1) Ex
theorem ae_kget {x : Str} {tbl : List (Str × W)} {e : Expr} {τ : DE} {p apos pos : Pos} (h : KdF T X x tbl) (hg : Gl X x) (hn : okName x = true) (he : PE X e (cE T E τ)) (hs : noStar e = true) (hl : (apos.endLine == pos.line) = true) :
    PE X (.Call (.Attribute (.Name x p) "get" apos) [e] [] pos) (cE T E (dKget tbl τ)) := by
  obtain ⟨d, es, n, hm, D, hk⟩ := h
  have hall : [e].all noStar = true := by simp [hs]
  refine ⟨fun pins s σ H Q I q => ?_⟩
  have hfew : ((backTo pos (starEach [e] X.env)).all (fun x => !x.1) && (backToKw pos (keywordEach [] X.env)).all (fun x => x.1.isSome)
    && decide (([e] : List Expr).length + ([] : List Keyword).length + (if ([] : List Keyword).isEmpty then 0 else 1) < 30)) = true := by
    rw [star_every hall]; rfl
  have htr : backTo pos (starEach [e] X.env) = [(false, eval e X.env)] := by rw [star_cons hs]; rfl
  refine wpAny_Call_method (base_of rfl) hfew hl PySem.F.plainAttrs_dict PySem.F.slot_dict_get PySem.F.type_dict_get (ld_glob I hg hm ?_ (okName_of hn).1)
  have dd := PySem.W.mapOf_K (prog := X.prog) (w := X.w) I.kIn D.at_ D.lit
  refine ⟨kd_type D I, fun b q => ?_, ?_⟩
  · cases q
    exact ⟨_, I.kIn _ _ D.at_, rfl⟩
  rw [htr]
  refine Calls.callWith_builtin rfl (Calls.evalArgs_plain (Calls.spliced_cons ?_))
  have hq : cE T E τ σ H fun y H1 => ∃ z, y = .str z ∧ ∃ r v, PySem.W.nsIn X.K d z = some r ∧ RelV v (r.getD .none) ∧ Q v H1 := by
    obtain ⟨F, σw, M, Qw, Ew, rs, S, t, kq, kx⟩ := q
    refine ⟨F, σw, M, _, Ew, rs, S, t, fun k M1 y H1 F1 e1 r1 S1 ⟨z, ek, q⟩ => ?_, kx⟩
    subst ek
    obtain ⟨r, h2, h3, h4⟩ := hk z
    refine ⟨z, RW.str_.mp r1, ?_⟩
    cases e : tlook tbl z with
    | none =>
      rw [e] at q
      exact ⟨none, .non, by rw [← h4 e]; exact h2, rfl, kq _ _ _ _ _ e1 (RW.non_.mpr rfl) S1 q⟩
    | some w =>
      obtain ⟨u, v, rfl, h5, h6⟩ := h3 w e
      rw [e] at q
      exact ⟨some u, v, h2, h5, kq _ _ _ _ _ e1 (h6 _ _) S1 q⟩
  refine thn (he.run pins _ σ H _ I hq) fun u s2 ⟨y, H2, I2, ry, z, ez, r, v, h2, hv, hQ⟩ => Calls.spliced_nil ?_
  subst ez
  obtain ⟨t, rfl⟩ := ry
  have dd2 := PySem.W.mapOf_K (prog := X.prog) (w := X.w) I2.kIn D.at_ D.lit
  refine call_meetsIn PySem.F.slot_dict_get (kd_type D I2) PySem.F.entry_dict_get (PySem.F.args_dict_get_2 _ _) (meets_dict_get (PySem.strKind X.prog X.w) d (PySem.strKind_is X.prog X.w z t) D.low) ⟨_, dd2, ?_⟩
  rw [PySem.W.find_K D.at_ h2]
  exact ⟨v, H2, I2.tok _, hv, hQ⟩
end WL
namespace WL
open PySem PySem.Spec PyProof.Rows L2

mutual
inductive Ex where
  | lit (w : W) | var (i : Nat) | glob (g : Nat)
  | tup (es : Es) | lst (own : Bool) (es : Es)
  | bin (op : Operator) (own : Bool) (a b : Ex) | neg (a : Ex)
  | cmp (op : CmpOp) (a b : Ex) | chain (op op' : CmpOp) (a b c : Ex)
  | not (a : Ex) | bool (isAnd : Bool) (es : Es)
  | ite (t a b : Ex) | idx (a b : Ex) | slice (own : Bool) (a : Ex) (lo hi : Eo)
  | call (f : Nat) (es : Es) | new (own : Bool) (c : Nat) (es : Es) | meth (m : Nat) (o : Ex) (es : Es) | attr (o : Ex) (f : Str)
  | blt (own : Bool) (b : BI) (es : Es) | bm (own : Bool) (b : BM) (o : Ex) (es : Es)
  | isi (t : Ty) (e : Ex) | isi2 (t u : Ty) (e : Ex)
  | lc (own : Bool) (elt : Ex) (tg : Tg) (src : Sr) (cond : Eo) (vs : List (Str × Nat))
  | dget (d k : Ex) | din (neg : Bool) (k d : Ex) | dnew | kidx (g : Nat) (k : Ex) | kin (neg : Bool) (g : Nat) (k : Ex) | kget (g : Nat) (k : Ex)
  | disp (own : Bool) (ks : List Str) (es : Es)
  | frz (a : Ex)
inductive Es where
  | nil | cons (e : Ex) (es : Es)
inductive Eo where
  | none | some (e : Ex)
inductive Sr where
  | seq (e : Ex) | rg1 (e : Ex) | rg2 (a b : Ex) | zip (a b : Ex) | enum (e : Ex)
end
mutual
inductive Sc where
  | asg (tg : Tg) (e : Ex) | expr (e : Ex) | ret (e : Ex) | ite (t : Ex) (a b : Ss) | for_ (tg : Tg) (src : Sr) (body : Ss) | while_ (t : Ex) (body : Ss)
  | fld (o : Ex) (f : Str) (e : Ex) | set (o i e : Ex) | dput (o i e : Ex) | never
inductive Ss where
  | nil | cons (s : Sc) (ss : Ss)
end
structure Gam where
  gl : Nat → W
  kd : Nat → List (Str × W)
  fn : Nat → Wp
  ini : Nat → Wp
  me : Nat → Nat → Option Wp
  meN : Nat → Str
def cmpP : CmpOp → W → W → Mh → QW → Prop
  | .Eq => eqV_ | .NotEq => neV_ | .Lt => ltW | .LtE => leW | .Gt => gtW | .GtE => geW | .Is => isW false | .IsNot => isW true | .In => inW false | .NotIn => inW true
def binP (own : Bool) : Operator → W → W → Mh → QW → Prop
  | .Add => addW own | .Sub => subW | .Mult => mulW own | .Mod => modW | .FloorDiv => fdivW | .Pow => powW
  | _ => fun _ _ _ _ => False
def finD (own : Bool) (p : Addr) (kws : List (Key × W)) (M : Mh) (Q : QW) : Prop := match own with
  | true => Q (.ref p) (mup M p (.dk kws))
  | false => Q (.dk (kws.map (·.1)) (kws.map (·.2))) (mdel M p)
def dDisp (own : Bool) (ks : List Str) (ρ : DA) : DE := fun σ M Q Ex => ∀ p, M p = none → ρ σ (mup M p (.dk [])) (fun ws M2 => M2 p = some (.dk []) ∧ finD own p (zipK (ks.map Sum.inr) ws) M2 Q) Ex
def frzO : MO → W
  | .lst ws => .lst ws
  | .dk kvs => .dk (kvs.map (·.1)) (kvs.map (·.2))
  | .dt kvs => .dt (kvs.map (·.1)) (kvs.map (·.2))
  | .ins c fs => .obj c (fs.map (·.1)) (fs.map (·.2))
def frzW : W → Mh → QW → Prop
  | .ref a, M, Q => ∃ o, M a = some o ∧ Q (frzO o) (mdel M a)
  | _, _, _ => False
def dFrz (τ : DE) : DE := fun σ M Q Ex => τ σ M (fun w M1 => frzW w M1 Q) Ex
structure DX where
  e : DE
  t : DT
structure DXs where
  a : DA
  v : Bool → DE
  t : Bool → DT
  /-- .. of one? -/
  n : Nat
mutual
def dX (Γ : Gam) : Ex → DX
  | .lit w => let e := dC w; ⟨e, dTru e⟩
  | .var i => let e := dVar i; ⟨e, dTru e⟩
  | .glob g => let e := dC (Γ.gl g); ⟨e, dTru e⟩
  | .tup es => let e := dTup (dXs Γ es).a; ⟨e, dTru e⟩
  | .lst own es => let e := dLst own (dXs Γ es).a; ⟨e, dTru e⟩
  | .bin op own a b => let e := d2 (binP own op) (dX Γ a).e (dX Γ b).e; ⟨e, dTru e⟩
  | .neg a => let e := d1 negW (dX Γ a).e; ⟨e, dTru e⟩
  | .cmp op a b => let e := d2 (cmpP op) (dX Γ a).e (dX Γ b).e; ⟨e, dB e⟩
  | .chain op op' a b c => let e := dChain (cmpP op) (cmpP op') (dX Γ a).e (dX Γ b).e (dX Γ c).e; ⟨e, dB e⟩
  | .not a => ⟨dNotV (dX Γ a).e, dNotT (dX Γ a).t⟩
  | .bool isAnd es => ⟨(dXs Γ es).v isAnd, (dXs Γ es).t isAnd⟩
  | .ite t a b => let e := dIte (dX Γ t).t (dX Γ a).e (dX Γ b).e; ⟨e, fun _ _ _ _ => False⟩
  | .idx a b => let e := d2 idxW (dX Γ a).e (dX Γ b).e; ⟨e, dTru e⟩
  | .slice own a lo hi => let e := dSlice own (dX Γ a).e (dXo Γ lo).1 (dXo Γ hi).1; ⟨e, dTru e⟩
  | .call f es => let e := dCall (Γ.fn f) (dXs Γ es).a; ⟨e, dTru e⟩
  | .new own c es => let e := dNew own c (Γ.ini c) (dXs Γ es).a; ⟨e, dTru e⟩
  | .meth m o es => let e := dMeth (fun c => Γ.me c m) (Γ.meN m) (dX Γ o).e (dXs Γ es).a; ⟨e, dTru e⟩
  | .attr o f => let e := dAttr (dX Γ o).e f; ⟨e, dTru e⟩
  | .blt own b es => let e := dN (b.w own) (dXs Γ es).a; ⟨e, dTru e⟩
  | .bm own b o es => let e := dBM own b (dX Γ o).e (dXs Γ es).a; ⟨e, dTru e⟩
  | .isi t a => let e := dIsi t (dX Γ a).e; ⟨e, dTru e⟩
  | .isi2 t u a => let e := dIsi2 t u (dX Γ a).e; ⟨e, dTru e⟩
  | .lc own elt tg src cond vs => let e := dLc own (dXi Γ src) tg (dXo Γ cond).2 (dX Γ elt).e (vs.map (·.2)); ⟨e, dTru e⟩
  | .dget d k => let e := dDget (dX Γ d).e (dX Γ k).e; ⟨e, dTru e⟩
  | .din neg k d => let e := dDin neg (dX Γ k).e (dX Γ d).e; ⟨e, dB e⟩
  | .dnew => let e := dDnew; ⟨e, dTru e⟩
  | .kidx g k => let e := dKidx (Γ.kd g) (dX Γ k).e; ⟨e, dTru e⟩
  | .kin neg g k => let e := dKin neg (Γ.kd g) (dX Γ k).e; ⟨e, dB e⟩
  | .kget g k => let e := dKget (Γ.kd g) (dX Γ k).e; ⟨e, dTru e⟩
  | .disp own ks es => let e := dDisp own ks (dXs Γ es).a; ⟨e, dTru e⟩
  | .frz a => let e := dFrz (dX Γ a).e; ⟨e, dTru e⟩
def dXs (Γ : Gam) : Es → DXs
  | .nil => ⟨dNil, fun _ _ _ _ _ => False, fun _ _ _ _ _ => False, 0⟩
  | .cons e es => ⟨dCons (dX Γ e).e (dXs Γ es).a,
      fun isAnd => if (dXs Γ es).n = 0 then (dX Γ e).e else dJoinV isAnd (dX Γ e).e ((dXs Γ es).v isAnd),
      fun isAnd => if (dXs Γ es).n = 0 then (dX Γ e).t else dJoinT isAnd (dX Γ e).t ((dXs Γ es).t isAnd), (dXs Γ es).n + 1⟩
def dXo (Γ : Gam) : Eo → DO × DT
  | .none => (dNoPart, dYes)
  | .some e => (dPart (dX Γ e).e, (dX Γ e).t)
def dXi (Γ : Gam) : Sr → DI
  | .seq e => iSeqD (dX Γ e).e
  | .rg1 e => iRg1 (dX Γ e).e
  | .rg2 a b => iRg2 (dX Γ a).e (dX Γ b).e
  | .zip a b => iZip (dX Γ a).e (dX Γ b).e
  | .enum e => iEnumD (dX Γ e).e
end
mutual
def dSc (Γ : Gam) : Sc → DS
  | .asg tg e => dAsg (dX Γ e).e tg
  | .expr e => dExpr (dX Γ e).e
  | .ret e => dRet (dX Γ e).e
  | .ite t a b => dIf (dX Γ t).t (dSs Γ a) (dSs Γ b)
  | .for_ tg src body => dFor (dXi Γ src) tg (dSs Γ body)
  | .while_ t body => dWhile (dX Γ t).t (dSs Γ body)
  | .fld o f e => dFld (dX Γ o).e (dX Γ e).e f
  | .set o i e => dSet (dX Γ o).e (dX Γ i).e (dX Γ e).e
  | .dput o i e => dDput (dX Γ o).e (dX Γ i).e (dX Γ e).e
  | .never => dNever
def dSs (Γ : Gam) : Ss → DS
  | .nil => dNext
  | .cons s ss => dSeq (dSc Γ s) (dSs Γ ss)
end

def asName : Expr → Option Str
  | .Name x _ => some x
  | _ => none
theorem asName_of {e : Expr} {x : Str} (h : asName e = some x) : ∃ p, e = .Name x p := by
  cases e <;> first | (cases h; exact ⟨_, rfl⟩) | cases h
def asConst : Expr → Option Const
  | .Constant c _ _ => some c
  | _ => none
theorem asConst_of {e : Expr} {c : Const} (h : asConst e = some c) : ∃ k p, e = .Constant c k p := by
  cases e <;> first | (cases h; exact ⟨_, _, rfl⟩) | cases h
def asTuple : Expr → Option (List Expr)
  | .Tuple es _ _ => some es
  | _ => none
theorem asTuple_of {e : Expr} {l : List Expr} (h : asTuple e = some l) : ∃ k p, e = .Tuple l k p := by
  cases e <;> first | (cases h; exact ⟨_, _, rfl⟩) | cases h
def asList : Expr → Option (List Expr)
  | .List es _ => some es
  | _ => none
theorem asList_of {e : Expr} {l : List Expr} (h : asList e = some l) : ∃ p, e = .List l p := by
  cases e <;> first | (cases h; exact ⟨_, rfl⟩) | cases h
def asBin : Expr → Option (Expr × Operator × Expr)
  | .BinOp a op b _ => some (a, op, b)
  | _ => none
theorem asBin_of {e a b : Expr} {op : Operator} (h : asBin e = some (a, op, b)) : ∃ p, e = .BinOp a op b p := by
  cases e <;> first | (cases h; exact ⟨_, rfl⟩) | cases h
def asUn : Expr → Option (UnaryOp × Expr)
  | .UnaryOp op a _ => some (op, a)
  | _ => none
theorem asUn_of {e a : Expr} {op : UnaryOp} (h : asUn e = some (op, a)) : ∃ p, e = .UnaryOp op a p := by
  cases e <;> first | (cases h; exact ⟨_, rfl⟩) | cases h
def asCmp1 : Expr → Option (Expr × CmpOp × Expr)
  | .Compare a [op] [b] _ => some (a, op, b)
  | _ => none
theorem asCmp1_of {e a b : Expr} {op : CmpOp} (h : asCmp1 e = some (a, op, b)) : ∃ p, e = .Compare a [op] [b] p := by
  unfold asCmp1 at h
  split at h
  · cases h; exact ⟨_, rfl⟩
  · cases h
def asCmp2 : Expr → Option (Expr × CmpOp × Expr × CmpOp × Expr)
  | .Compare a [op, op'] [b, c] _ => some (a, op, b, op', c)
  | _ => none
theorem asCmp2_of {e a b c : Expr} {op op' : CmpOp} (h : asCmp2 e = some (a, op, b, op', c)) : ∃ p, e = .Compare a [op, op'] [b, c] p := by
  unfold asCmp2 at h
  split at h
  · cases h; exact ⟨_, rfl⟩
  · cases h
def asBool : Expr → Option (BoolOp × List Expr)
  | .BoolOp op es _ => some (op, es)
  | _ => none
theorem asBool_of {e : Expr} {op : BoolOp} {l : List Expr} (h : asBool e = some (op, l)) : ∃ p, e = .BoolOp op l p := by
  cases e <;> first | (cases h; exact ⟨_, rfl⟩) | cases h
def asIf : Expr → Option (Expr × Expr × Expr)
  | .IfExp t a b _ => some (t, a, b)
  | _ => none
theorem asIf_of {e t a b : Expr} (h : asIf e = some (t, a, b)) : ∃ p, e = .IfExp t a b p := by
  cases e <;> first | (cases h; exact ⟨_, rfl⟩) | cases h
def asSub : Expr → Option (Expr × Expr)
  | .Subscript a b _ => some (a, b)
  | _ => none
theorem asSub_of {e a b : Expr} (h : asSub e = some (a, b)) : ∃ p, e = .Subscript a b p := by
  cases e <;> first | (cases h; exact ⟨_, rfl⟩) | cases h
def asSlice : Expr → Option (Option Expr × Option Expr)
  | .Slice lo hi none _ => some (lo, hi)
  | _ => none
theorem asSlice_of {e : Expr} {lo hi : Option Expr} (h : asSlice e = some (lo, hi)) : ∃ p, e = .Slice lo hi none p := by
  unfold asSlice at h
  split at h
  · cases h; exact ⟨_, rfl⟩
  · cases h
def asCall : Expr → Option (Expr × List Expr × Pos)
  | .Call f es [] p => some (f, es, p)
  | _ => none
theorem asCall_of {e f : Expr} {l : List Expr} {p : Pos} (h : asCall e = some (f, l, p)) : e = .Call f l [] p := by
  unfold asCall at h
  split at h
  · cases h; rfl
  · cases h
def asAttr : Expr → Option (Expr × Str × Pos)
  | .Attribute o f p => some (o, f, p)
  | _ => none
theorem asAttr_of {e o : Expr} {f : Str} {p : Pos} (h : asAttr e = some (o, f, p)) : e = .Attribute o f p := by
  cases e <;> first | (cases h; rfl) | cases h
def asLC : Expr → Option (Expr × Expr × Expr × List Expr × Scope × Pos)
  | .ListComp elt [⟨tg, iter, ifs, 0⟩] scope p => some (elt, tg, iter, ifs, scope, p)
  | _ => none
theorem asLC_of {e elt tg iter : Expr} {ifs : List Expr} {scope : Scope} {p : Pos} (h : asLC e = some (elt, tg, iter, ifs, scope, p)) : e = .ListComp elt [⟨tg, iter, ifs, 0⟩] scope p := by
  unfold asLC at h
  split at h
  · cases h; rfl
  · cases h
def asDict : Expr → Option (List (Option Expr) × List Expr)
  | .Dict ks vs _ => some (ks, vs)
  | _ => none
theorem asDict_of {e : Expr} {ks : List (Option Expr)} {vs : List Expr} (h : asDict e = some (ks, vs)) : ∃ p, e = .Dict ks vs p := by
  cases e <;> first | (cases h; exact ⟨_, rfl⟩) | cases h
def litOk : W → Const → Bool
  | .int i, .int j => decide (i = j)
  | .bl i, .bool j => decide (i = j)
  | .str i, .str j => decide (i = j)
  | .non, .none => true
  | _, _ => false
structure Nm where
  fn : Nat → Option Str
  cl : Nat → Option Str
  me : Nat → Str
  gl : Nat → Option Str
  kd : Nat → Option Str
  flds : List Str
  free : List Str
structure Ck where
  N : List Str
  sc : Scope
  fno : Str → Bool
def Ck.blk (k : Ck) (scope : Scope) : Ck := ⟨k.N, relS scope k.sc, fun x => scope.names.lookup x == some .cell⟩
def chkTg (k : Ck) : Tg → Expr → Bool
  | .name i, e => match asName e with
    | some x => decide (k.N[i]? = some x) && locB k.sc x && (k.fno x || decide (k.sc.names.lookup x = some .local))
    | none => false
  | .tup is, e => match asTuple e with
    | some l => l.all isName && chkNames k is l
    | none => false
where
  chkNames (k : Ck) : List Nat → List Expr → Bool
  | [], [] => true
  | i :: is, e :: es => (match asName e with
    | some x => decide (k.N[i]? = some x) && locB k.sc x && (k.fno x || decide (k.sc.names.lookup x = some .local))
    | none => false) && chkNames k is es
  | _, _ => false
def isTupE : Expr → Bool
  | .Tuple .. => true
  | _ => false
def glName (k : Ck) (x : Option Str) (e : Expr) : Bool := match x, asName e with
  | some x, some y => decide (x = y) && glB k.sc x && okName x
  | _, _ => false
def freeName (nm : Nm) (k : Ck) (x : Str) (e : Expr) : Bool := match asName e with
  | some y => decide (x = y) && glB k.sc x && nm.free.contains x
  | none => false
def keysOf : List Str → List (Option Expr) → Bool
  | [], [] => true
  | k :: ks, some e :: es => (match asConst e with
    | some (.str y) => decide (k = y)
    | _ => false) && keysOf ks es
  | _, _ => false
def fullT : Bool × Bool → Bool := fun p => p.1 && p.2
structure Ch where
  e : Ck → Expr → Bool
  t : Ck → Expr → Bool
def Ch.pl (f : Ck → Expr → Bool) : Ch := ⟨f, fun k e => plainTest e && f k e⟩
def ifsB (c : Option (Ck → Expr → Bool)) (k : Ck) (ifs : List Expr) : Bool := match c, ifs with
  | none, [] => true
  | some c, [x] => c k x
  | _, _ => false
def lcB (k : Ck) (tg : Tg) (vs : List (Str × Nat)) (ci : Ck → Expr → Expr → Bool) (cc : Option (Ck → Expr → Bool)) (ce : Ck → Expr → Bool) (el t it : Expr) (ifs : List Expr) (scope : Scope) : Bool :=
  blkC k.N k.sc scope vs && chkTg (k.blk scope) tg t && ci k t it && noSet it && ifsB cc (k.blk scope) ifs && ce (k.blk scope) el && tg.slots.all (fun i => (vs.map (·.2)).contains i)
mutual
def chk (nm : Nm) : Ex → Ch
  | .lit w => .pl fun _ e => match asConst e with | some c => litOk w c | none => false
  | .var i => .pl fun k e => match asName e with | some x => decide (k.N[i]? = some x) && visB k.sc x && okName x | none => false
  | .glob g => .pl fun k e => glName k (nm.gl g) e
  | .tup es => .pl fun k e => match asTuple e with | some l => chks nm es k l | none => false
  | .lst _ es => .pl fun k e => match asList e with | some l => chks nm es k l | none => false
  | .bin op _ a b => .pl fun k e => match asBin e with
    | some (x, o, y) => decide (o = op) && [Operator.Add, .Sub, .Mult, .Mod, .FloorDiv, .Pow].contains op && (chk nm a).e k x && (chk nm b).e k y
    | none => false
  | .neg a => .pl fun k e => match asUn e with | some (.USub, x) => (chk nm a).e k x | _ => false
  | .cmp op a b => let f := fun k e => match asCmp1 e with | some (x, o, y) => decide (o = op) && noSet y && (chk nm a).e k x && (chk nm b).e k y | none => false; ⟨f, f⟩
  | .chain op op' a b c => let f := fun k e => match asCmp2 e with | some (x, o, y, o', z) => decide (o = op) && decide (o' = op') && noSet z && (chk nm a).e k x && (chk nm b).e k y && (chk nm c).e k z | none => false; ⟨f, f⟩
  | .not a => ⟨fun k e => match asUn e with | some (.Not, x) => (chk nm a).e k x | _ => false, fun k e => match asUn e with | some (.Not, x) => (chk nm a).t k x | _ => false⟩
  | .bool isAnd es => ⟨fun k e => match asBool e with | some (op, l) => decide ((op == .And) = isAnd) && chks nm es k l && !l.isEmpty | none => false,
      fun k e => match asBool e with | some (op, l) => decide ((op == .And) = isAnd) && chkts nm es k l && !l.isEmpty | none => false⟩
  | .ite t a b => ⟨fun k e => match asIf e with | some (x, y, z) => (chk nm t).t k x && (chk nm a).e k y && (chk nm b).e k z | none => false, fun _ _ => false⟩
  | .idx a b => .pl fun k e => match asSub e with | some (x, y) => plainIx y && (chk nm a).e k x && (chk nm b).e k y | none => false
  | .slice _ a lo hi => .pl fun k e => match asSub e with
    | some (x, y) => (match asSlice y with | some (l, h) => (chk nm a).e k x && chko nm lo k l && chko nm hi k h | none => false)
    | none => false
  | .call f es => .pl fun k e => match asCall e with | some (g, l, _) => glName k (nm.fn f) g && l.all noStar && chks nm es k l | none => false
  | .new _ c es => .pl fun k e => match asCall e with | some (g, l, _) => glName k (nm.cl c) g && l.all noStar && chks nm es k l | none => false
  | .meth m o es => .pl fun k e => match asCall e with
    | some (g, l, p) => (match asAttr g with
      | some (ov, x, ap) => decide (x = nm.me m) && plainBase ov && (ap.endLine == p.line) && l.all noStar && decide (l.length < 29) && (chk nm o).e k ov && chks nm es k l
      | none => false)
    | none => false
  | .attr o f => .pl fun k e => match asAttr e with | some (ov, x, _) => decide (x = f) && nm.flds.contains f && plainBase ov && (chk nm o).e k ov | none => false
  | .blt _ b es => .pl fun k e => match asCall e with | some (g, l, _) => freeName nm k b.name g && l.all noStar && !l.isEmpty && chks nm es k l | none => false
  | .bm _ b o es => .pl fun k e => match asCall e with
    | some (g, l, p) => (match asAttr g with
      | some (ov, x, ap) => decide (x = b.name) && plainBase ov && (ap.endLine == p.line) && l.all noStar && decide (l.length < 29) && (chk nm o).e k ov && chks nm es k l
      | none => false)
    | none => false
  | .isi t a => .pl fun k e => match asCall e with
    | some (g, [x, y], _) => freeName nm k "isinstance" g && (match t.asName with | some z => freeName nm k z y | none => false) && noStar x && (chk nm a).e k x
    | _ => false
  | .isi2 t u a => .pl fun k e => match asCall e with
    | some (g, [x, y], _) => freeName nm k "isinstance" g && (match t.asName, u.asName, asTuple y with | some z, some z', some [y1, y2] => freeName nm k z y1 && freeName nm k z' y2 | _, _, _ => false) && noStar x && (chk nm a).e k x
    | _ => false
  | .lc _ elt tg src cond vs => .pl fun k e => match asLC e with
    | some (el, t, it, ifs, scope, _) => lcB k tg vs (chki nm src) (chkq nm cond) (chk nm elt).e el t it ifs scope
    | none => false
  | .dget d b => .pl fun k e => match asSub e with | some (x, y) => plainIx y && (chk nm d).e k x && (chk nm b).e k y | none => false
  | .din neg a d => let f := fun k e => match asCmp1 e with | some (x, o, y) => decide (o = if neg then CmpOp.NotIn else CmpOp.In) && noSet y && (chk nm a).e k x && (chk nm d).e k y | none => false; ⟨f, f⟩
  | .dnew => .pl fun _ e => match asDict e with | some ([], []) => true | _ => false
  | .kidx g a => .pl fun k e => match asSub e with | some (x, y) => glName k (nm.kd g) x && plainIx y && (chk nm a).e k y | none => false
  | .kin neg g a => let f := fun k e => match asCmp1 e with | some (x, o, y) => decide (o = if neg then CmpOp.NotIn else CmpOp.In) && glName k (nm.kd g) y && (chk nm a).e k x | none => false; ⟨f, f⟩
  | .kget g a => .pl fun k e => match asCall e with
    | some (f, [x], p) => (match asAttr f with
      | some (ov, y, ap) => decide (y = "get") && glName k (nm.kd g) ov && (ap.endLine == p.line) && noStar x && (chk nm a).e k x
      | none => false)
    | _ => false
  | .disp _ ks es => .pl fun k e => match asDict e with | some (kl, vl) => keysOf ks kl && decide (ks.Nodup) && !ks.isEmpty && decide (ks.length ≤ 15) && decide (kl.length = vl.length) && chks nm es k vl | none => false
  | .frz a => .pl (chk nm a).e
def chks (nm : Nm) : Es → Ck → List Expr → Bool
  | .nil, _, [] => true
  | .cons e es, k, x :: xs => noStar x && (chk nm e).e k x && chks nm es k xs
  | _, _, _ => false
def chkts (nm : Nm) : Es → Ck → List Expr → Bool
  | .nil, _, [] => true
  | .cons e es, k, x :: xs => (chk nm e).t k x && chkts nm es k xs
  | _, _, _ => false
def chko (nm : Nm) : Eo → Ck → Option Expr → Bool
  | .none, _, none => true
  | .some e, k, some x => (chk nm e).e k x
  | _, _, _ => false
def chkq (nm : Nm) : Eo → Option (Ck → Expr → Bool)
  | .none => none
  | .some e => some (chk nm e).t
def chki (nm : Nm) : Sr → Ck → Expr → Expr → Bool
  | .seq e, k, _, x => (chk nm e).e k x
  | .rg1 e, k, _, x => (match asCall x with | some (g, [y], _) => freeName nm k "range" g && noStar y && (chk nm e).e k y | _ => false)
  | .rg2 a b, k, _, x => (match asCall x with | some (g, [y, z], _) => freeName nm k "range" g && noStar y && noStar z && (chk nm a).e k y && (chk nm b).e k z | _ => false)
  | .zip a b, k, t, x => isTupE t && (match asCall x with | some (g, [y, z], _) => freeName nm k "zip" g && noStar y && noStar z && (chk nm a).e k y && (chk nm b).e k z | _ => false)
  | .enum e, k, t, x => isTupE t && (match asCall x with | some (g, [y], _) => freeName nm k "enumerate" g && noStar y && (chk nm e).e k y | _ => false)
end
end WL
namespace WL
open PySem PySem.Spec PyProof.Rows L2
variable {Γ : Gam} {nm : Nm} {T : Tb} {n : Nat}

def GlF (T : Tb) (X : Cx) (x : Str) (w : W) : Prop := ∃ u v, X.mg x = some u ∧ RelV v u ∧ ∀ F H, RW T F H w v
structure Fx (Γ : Gam) (nm : Nm) (T : Tb) (n : Nat) (X : Cx) (E : XK) : Prop where
  K : X.K = T.K
  calm : X.calm = true
  nd : X.N.Nodup
  room : Room (n + 1) X.A
  kind : X.env.scope.kind = .function
  fn : ∀ f x, nm.fn f = some x → FnF T X (n + 1) x (Γ.fn f)
  cl : ∀ c x, nm.cl c = some x → MkF T X n c x (Γ.ini c)
  me : ∀ m c p, Γ.me c m = some p → MeF T X (n + 1) c (Γ.meN m) p
  meN : ∀ m, Γ.meN m = nm.me m
  gl : ∀ g x, nm.gl g = some x → GlF T X x (Γ.gl g)
  kd : ∀ g x, nm.kd g = some x → KdF T X x (Γ.kd g)
  flds : ClF T X nm.flds
  free : ∀ x, nm.free.contains x = true → X.mg x = none
  ps : Passes (L2.CX X.prog X.w) X E
structure Cor (k : Ck) (X : Cx) : Prop where
  N : X.N = k.N
  sc : X.env.scope = k.sc
  fno : ∀ x, k.fno x = true → X.fn x = true
theorem passes_E0w {X : Cx} : Passes (L2.CX X.prog X.w) X E0w := fun _ _ _ _ _ _ _ h => by
  obtain ⟨_, _, _, _, _, _, _, _, _, _, _, _, q⟩ := h
  exact q.elim
theorem Fx.blk {X : Cx} {E : XK} {scope : Scope} (f : Fx Γ nm T n X E) (hk : scope.kind = .function) (s : Shared) (H : Hp) (C : Addr) (cl : List (Str × Addr)) (fp : List Addr) : Fx Γ nm T n (X.blk s H scope (compEnvC scope cl C X.env) fp) E0w :=
  ⟨f.K, f.calm, f.nd, f.room, hk, f.fn, f.cl, f.me, f.meN, f.gl, f.kd, ⟨f.flds.cl, f.flds.no⟩, f.free, passes_E0w⟩
theorem Cor.blk {X : Cx} {k : Ck} {scope : Scope} (c : Cor k X) (s : Shared) (H : Hp) (C : Addr) (cl : List (Str × Addr)) (fp : List Addr) : Cor (k.blk scope) (X.blk s H scope (compEnvC scope cl C X.env) fp) :=
  ⟨c.N, by show relS scope X.env.scope = relS scope k.sc; rw [c.sc], fun x h => h⟩
def GoodE (Γ : Gam) (nm : Nm) (T : Tb) (n : Nat) (c : Ck → Expr → Bool) (d : DE) : Prop := ∀ X E k e, Fx Γ nm T n X E → Cor k X → c k e = true → PE X e (cE T E d)
def GoodT (Γ : Gam) (nm : Nm) (T : Tb) (n : Nat) (c : Ck → Expr → Bool) (d : DT) : Prop := ∀ X E k e, Fx Γ nm T n X E → Cor k X → c k e = true → PT X e (cT T E d)
structure Good (Γ : Gam) (nm : Nm) (T : Tb) (n : Nat) (c : Ch) (d : DX) : Prop where
  e : GoodE Γ nm T n c.e d.e
  t : GoodT Γ nm T n c.t d.t
structure GoodS (Γ : Gam) (nm : Nm) (T : Tb) (n : Nat) (c ct : Ck → List Expr → Bool) (d : DXs) : Prop where
  a : ∀ X E k l, Fx Γ nm T n X E → Cor k X → c k l = true → PA X l (cA T E d.a) ∧ l.all noStar = true ∧ l.length = d.n
  nt : ∀ k l, ct k l = true → l.length = d.n
  nil : d.n = 0 → d.a = dNil
  va : ∀ X E k l pos, Fx Γ nm T n X E → Cor k X → c k l = true → l ≠ [] → PE X (.BoolOp .And l pos) (cE T E (d.v true))
  vo : ∀ X E k l pos, Fx Γ nm T n X E → Cor k X → c k l = true → l ≠ [] → PE X (.BoolOp .Or l pos) (cE T E (d.v false))
  ta : ∀ X E k l pos, Fx Γ nm T n X E → Cor k X → ct k l = true → l ≠ [] → L2.PW X (.BoolOp .And l pos) (cT T E (d.t true))
  to : ∀ X E k l pos, Fx Γ nm T n X E → Cor k X → ct k l = true → l ≠ [] → L2.PW X (.BoolOp .Or l pos) (cT T E (d.t false))
structure GoodQ (Γ : Gam) (nm : Nm) (T : Tb) (n : Nat) (c : Ck → Option Expr → Bool) (cc : Option (Ck → Expr → Bool)) (d : DO × DT) : Prop where
  o : ∀ X E k l, Fx Γ nm T n X E → Cor k X → c k l = true → PO X l (cO T E d.1)
  q : (cc = none ∧ d.2 = dYes) ∨ ∃ c, cc = some c ∧ GoodT Γ nm T n c d.2
def GoodI (Γ : Gam) (nm : Nm) (T : Tb) (n : Nat) (c : Ck → Expr → Expr → Bool) (d : DI) : Prop := ∀ X E k t e, Fx Γ nm T n X E → Cor k X → c k t e = true → PI X t e (cI T E d)
theorem Good.pl {c : Ck → Expr → Bool} {d : DE} (h : GoodE Γ nm T n c d) : Good Γ nm T n (.pl c) ⟨d, dTru d⟩ := ⟨h, fun X E k e f r q => by
  have q : (plainTest e && c k e) = true := q
  rw [Bool.and_eq_true] at q
  exact at_tru f.K (h X E k e f r q.2) q.1⟩

section
variable {X : Cx} {E : XK} {k : Ck}
theorem gl_of (r : Cor k X) {x : Str} (h : glB k.sc x = true) : Gl X x := by
  have h := of_decide_eq_true h
  show X.env.scope.names.lookup x = _
  rw [r.sc]; exact h
theorem Cor.vis (r : Cor k X) {x : Str} (h : visB k.sc x = true) : Vis X.env.scope x := by rw [r.sc]; exact vis_of h
theorem Cor.loc (r : Cor k X) {x : Str} (h : locB k.sc x = true) : Loc X.env.scope x := by rw [r.sc]; exact loc_of h
theorem glName_of (r : Cor k X) {o : Option Str} {e : Expr} (h : glName k o e = true) : ∃ x p, o = some x ∧ e = .Name x p ∧ Gl X x ∧ okName x = true := by
  unfold glName at h
  split at h
  · rename_i x y h2
    simp only [Bool.and_eq_true, decide_eq_true_eq] at h
    obtain ⟨⟨rfl, h3⟩, h4⟩ := h
    obtain ⟨p, rfl⟩ := asName_of h2
    exact ⟨_, p, rfl, rfl, gl_of r h3, h4⟩
  · cases h
theorem freeName_of (f : Fx Γ nm T n X E) (r : Cor k X) {x : Str} {e : Expr} (h : freeName nm k x e = true) : ∃ p, e = .Name x p ∧ Gl X x ∧ X.mg x = none := by
  unfold freeName at h
  split at h
  · rename_i y h2
    simp only [Bool.and_eq_true, decide_eq_true_eq] at h
    obtain ⟨⟨rfl, h3⟩, h4⟩ := h
    obtain ⟨p, rfl⟩ := asName_of h2
    exact ⟨p, rfl, gl_of r h3, f.free _ h4⟩
  · cases h
end

theorem RK.names' {κ : Type} {F : Addr → Prop} {H : Hp} : ∀ {fs : List (κ × W)} {us : List (κ × V)}, RK T F H fs us → fs.map (·.1) = us.map (·.1)
  | [], _, h => by rw [show _ = _ from h]; rfl
  | (n, w) :: fs, _, h => by
    obtain ⟨v, r, rfl, _, h2⟩ := h
    rw [List.map_cons, List.map_cons, RK.names' h2]
theorem RK.vals' {κ : Type} {F : Addr → Prop} {H : Hp} : ∀ {fs : List (κ × W)} {us : List (κ × V)}, RK T F H fs us → RWs T F H (fs.map (·.2)) (us.map (·.2))
  | [], _, h => by rw [show _ = _ from h]; exact .nil
  | (n, w) :: fs, _, h => by
    obtain ⟨v, r, rfl, h1, h2⟩ := h
    exact .cons h1 (RK.vals' h2)
theorem g_lit (w : W) : GoodE Γ nm T n (fun _ e => match asConst e with | some c => litOk w c | none => false) (dC w) := fun X E k e f r h => by
  simp only at h
  split at h
  · rename_i c hc
    obtain ⟨j, p, rfl⟩ := asConst_of hc
    unfold litOk at h
    split at h
    · rw [of_decide_eq_true h]; exact ae_C pe_int fun _ _ => RW.int_.mpr rfl
    · rw [of_decide_eq_true h]; exact ae_C pe_bl fun _ _ => RW.bl_.mpr rfl
    · rw [of_decide_eq_true h]; exact ae_C pe_str fun _ _ => RW.str_.mpr rfl
    · exact ae_C pe_non fun _ _ => RW.non_.mpr rfl
    · cases h
  · cases h
theorem g_var (i : Nat) : GoodE Γ nm T n (fun k e => match asName e with | some x => decide (k.N[i]? = some x) && visB k.sc x && okName x | none => false) (dVar i) := fun X E k e f r h => by
  simp only at h
  split at h
  · rename_i x hx
    obtain ⟨p, rfl⟩ := asName_of hx
    simp only [Bool.and_eq_true, decide_eq_true_eq] at h
    have hn := okName_of h.2
    exact ae_var (pe_var (by rw [r.N]; exact h.1.1) (r.vis h.1.2) hn.1 hn.2.1)
  · cases h
theorem g_glob (g : Nat) : GoodE Γ nm T n (fun k e => glName k (nm.gl g) e) (dC (Γ.gl g)) := fun X E k e f r h => by
  obtain ⟨x, p, h1, rfl, hg, hn⟩ := glName_of r h
  obtain ⟨u, v, h2, h3, h4⟩ := f.gl g x h1
  exact ae_C (pe_glob hg h2 h3 (okName_of hn).1) h4
theorem g_tup {cs ct : Ck → List Expr → Bool} {d : DXs} (g : GoodS Γ nm T n cs ct d) : GoodE Γ nm T n (fun k e => match asTuple e with | some l => cs k l | none => false) (dTup d.a) := fun X E k e f r h => by
  simp only at h
  split at h
  · rename_i l hl
    obtain ⟨j, p, rfl⟩ := asTuple_of hl
    exact ae_tup (g.a X E k l f r h).1
  · cases h
theorem g_lst {own : Bool} {cs ct : Ck → List Expr → Bool} {d : DXs} (g : GoodS Γ nm T n cs ct d) : GoodE Γ nm T n (fun k e => match asList e with | some l => cs k l | none => false) (dLst own d.a) := fun X E k e f r h => by
  simp only at h
  split at h
  · rename_i l hl
    obtain ⟨p, rfl⟩ := asList_of hl
    exact ae_lst (g.a X E k l f r h).1
  · cases h
theorem g_bin {op : Operator} {own : Bool} {ca cb : Ck → Expr → Bool} {da db : DE} (ga : GoodE Γ nm T n ca da) (gb : GoodE Γ nm T n cb db) :
    GoodE Γ nm T n (fun k e => match asBin e with
    | some (x, o, y) => decide (o = op) && [Operator.Add, .Sub, .Mult, .Mod, .FloorDiv, .Pow].contains op && ca k x && cb k y
    | none => false) (d2 (binP own op) da db) := fun X E k e f r h => by
  simp only at h
  split at h
  · rename_i x o y hb
    obtain ⟨p, rfl⟩ := asBin_of hb
    simp only [Bool.and_eq_true, decide_eq_true_eq] at h
    obtain ⟨⟨⟨rfl, hc⟩, h1⟩, h2⟩ := h
    have a := ga X E k x f r h1
    have b := gb X E k y f r h2
    cases o with
    | Add => exact ae_op op_addV (by rw [f.K]; exact ok_add) a b
    | Sub => exact ae_op op_sub ok_sub a b
    | Mult => exact ae_op op_mulV ok_mul a b
    | Mod => exact ae_op op_mod ok_mod a b
    | FloorDiv => exact ae_op op_fdiv ok_fdiv a b
    | Pow => exact ae_op op_pow ok_pow a b
    | _ => exact absurd hc (by decide)
  · cases h
theorem g_neg {ca : Ck → Expr → Bool} {da : DE} (ga : GoodE Γ nm T n ca da) : GoodE Γ nm T n (fun k e => match asUn e with | some (.USub, x) => ca k x | _ => false) (d1 negW da) := fun X E k e f r h => by
  simp only at h
  split at h
  · rename_i x hx
    obtain ⟨p, rfl⟩ := asUn_of hx
    exact ae_neg (ga X E k x f r h)
  · cases h
theorem units_of {X : Cx} {E : XK} (f : Fx Γ nm T n X E) : X.A.units + 65 < cLine := by have := f.room.un; omega
theorem g_cmp {op : CmpOp} {ca cb : Ck → Expr → Bool} {da db : DE} (ga : GoodE Γ nm T n ca da) (gb : GoodE Γ nm T n cb db) :
    Good Γ nm T n ⟨fun k e => match asCmp1 e with | some (x, o, y) => decide (o = op) && noSet y && ca k x && cb k y | none => false, fun k e => match asCmp1 e with | some (x, o, y) => decide (o = op) && noSet y && ca k x && cb k y | none => false⟩
      ⟨d2 (cmpP op) da db, dB (d2 (cmpP op) da db)⟩ := by
  have key : ∀ X E k e, Fx Γ nm T n X E → Cor k X → (match asCmp1 e with | some (x, o, y) => decide (o = op) && noSet y && ca k x && cb k y | none => false) = true →
      PE X e (cE T E (d2 (cmpP op) da db)) ∧ PT X e (cT T E (dB (d2 (cmpP op) da db))) := fun X E k e f r h => by
    split at h
    · rename_i x o y hb
      obtain ⟨p, rfl⟩ := asCmp1_of hb
      simp only [Bool.and_eq_true, decide_eq_true_eq] at h
      obtain ⟨⟨⟨rfl, hc⟩, h1⟩, h2⟩ := h
      have a := ga X E k x f r h1
      have b := gb X E k y f r h2
      have hu := units_of f
      have hu' : X.A.units + 64 < cLine := by omega
      have m := fun o : CmpOp => marks_of (op := o) hc
      cases o with
      | Eq => exact ⟨ae_cmp (op_eqV hu') (by rw [f.K]; exact ok_eq) a b (m _), at_cmp (op_eqV hu') (by rw [f.K]; exact ok_eq) a b (m _)⟩
      | NotEq => exact ⟨ae_cmp (op_neV hu') (by rw [f.K]; exact ok_ne) a b (m _), at_cmp (op_neV hu') (by rw [f.K]; exact ok_ne) a b (m _)⟩
      | Lt => exact ⟨ae_cmp op_lt ok_lt a b (m _), at_cmp op_lt ok_lt a b (m _)⟩
      | LtE => exact ⟨ae_cmp op_le ok_le a b (m _), at_cmp op_le ok_le a b (m _)⟩
      | Gt => exact ⟨ae_cmp op_gt ok_gt a b (m _), at_cmp op_gt ok_gt a b (m _)⟩
      | GtE => exact ⟨ae_cmp op_ge ok_ge a b (m _), at_cmp op_ge ok_ge a b (m _)⟩
      | Is => exact ⟨ae_cmp op_isV ok_is a b (m _), at_cmp op_isV ok_is a b (m _)⟩
      | IsNot => exact ⟨ae_cmp op_notV ok_is a b (m _), at_cmp op_notV ok_is a b (m _)⟩
      | In => exact ⟨ae_cmp op_inV (by rw [f.K]; exact ok_in) a b (m _), at_cmp op_inV (by rw [f.K]; exact ok_in) a b (m _)⟩
      | NotIn => exact ⟨ae_cmp op_notInV (by rw [f.K]; exact ok_in) a b (m _), at_cmp op_notInV (by rw [f.K]; exact ok_in) a b (m _)⟩
    · cases h
  exact ⟨fun X E k e f r h => (key X E k e f r h).1, fun X E k e f r h => (key X E k e f r h).2⟩
theorem opr_of {X : Cx} {E : XK} (f : Fx Γ nm T n X E) (o : CmpOp) : ∃ r, OpR X (compareOp o) r ∧ Ok2 T r (cmpP o) := by
  have hu := units_of f
  have hu' : X.A.units + 64 < cLine := by omega
  cases o with
  | Eq => exact ⟨_, op_eqV hu', by rw [f.K]; exact ok_eq⟩
  | NotEq => exact ⟨_, op_neV hu', by rw [f.K]; exact ok_ne⟩
  | Lt => exact ⟨_, op_lt, ok_lt⟩
  | LtE => exact ⟨_, op_le, ok_le⟩
  | Gt => exact ⟨_, op_gt, ok_gt⟩
  | GtE => exact ⟨_, op_ge, ok_ge⟩
  | Is => exact ⟨_, op_isV, ok_is⟩
  | IsNot => exact ⟨_, op_notV, ok_is⟩
  | In => exact ⟨_, op_inV, by rw [f.K]; exact ok_in⟩
  | NotIn => exact ⟨_, op_notInV, by rw [f.K]; exact ok_in⟩
theorem g_chain {op op' : CmpOp} {ca cb cc : Ck → Expr → Bool} {da db dc : DE} (ga : GoodE Γ nm T n ca da) (gb : GoodE Γ nm T n cb db) (gc : GoodE Γ nm T n cc dc) :
    Good Γ nm T n ⟨fun k e => match asCmp2 e with | some (x, o, y, o', z) => decide (o = op) && decide (o' = op') && noSet z && ca k x && cb k y && cc k z | none => false,
      fun k e => match asCmp2 e with | some (x, o, y, o', z) => decide (o = op) && decide (o' = op') && noSet z && ca k x && cb k y && cc k z | none => false⟩ ⟨dChain (cmpP op) (cmpP op') da db dc, dB (dChain (cmpP op) (cmpP op') da db dc)⟩ := by
  have key : ∀ X E k e, Fx Γ nm T n X E → Cor k X → (match asCmp2 e with | some (x, o, y, o', z) => decide (o = op) && decide (o' = op') && noSet z && ca k x && cb k y && cc k z | none => false) = true →
      PE X e (cE T E (dChain (cmpP op) (cmpP op') da db dc)) ∧ PT X e (cT T E (dB (dChain (cmpP op) (cmpP op') da db dc))) := fun X E k e f r h => by
    split at h
    · rename_i x o y o' z hb
      obtain ⟨p, rfl⟩ := asCmp2_of hb
      simp only [Bool.and_eq_true, decide_eq_true_eq] at h
      obtain ⟨⟨⟨⟨⟨rfl, rfl⟩, hc⟩, h1⟩, h2⟩, h3⟩ := h
      obtain ⟨r1, o1, k1⟩ := opr_of f o
      obtain ⟨r2, o2, k2⟩ := opr_of f o'
      have a := ga X E k x f r h1
      have b := gb X E k y f r h2
      have c := gc X E k z f r h3
      exact ⟨ae_chain o1 o2 k1 k2 a b c (marks_of hc), at_chain o1 o2 k1 k2 a b c (marks_of hc)⟩
    · cases h
  exact ⟨fun X E k e f r h => (key X E k e f r h).1, fun X E k e f r h => (key X E k e f r h).2⟩
theorem g_not {c : Ch} {d : DX} (g : Good Γ nm T n c d) : Good Γ nm T n ⟨fun k e => match asUn e with | some (.Not, x) => c.e k x | _ => false, fun k e => match asUn e with | some (.Not, x) => c.t k x | _ => false⟩ ⟨dNotV d.e, dNotT d.t⟩ := by
  refine ⟨fun X E k e f r h => ?_, fun X E k e f r h => ?_⟩
  · simp only at h
    split at h
    · rename_i x hx
      obtain ⟨p, rfl⟩ := asUn_of hx
      exact ae_notV (g.e X E k x f r h)
    · cases h
  · simp only at h
    split at h
    · rename_i x hx
      obtain ⟨p, rfl⟩ := asUn_of hx
      exact at_not (g.t X E k x f r h)
    · cases h
theorem pt_bool {X : Cx} {op : BoolOp} {l : List Expr} {pos : Pos} {t : TT} (h : L2.PW X (.BoolOp op l pos) t) : PT X (.BoolOp op l pos) t := ⟨h.run _⟩
theorem g_bool {isAnd : Bool} {cs ct : Ck → List Expr → Bool} {d : DXs} (g : GoodS Γ nm T n cs ct d) :
    Good Γ nm T n ⟨fun k e => match asBool e with | some (op, l) => decide ((op == .And) = isAnd) && cs k l && !l.isEmpty | none => false,
      fun k e => match asBool e with | some (op, l) => decide ((op == .And) = isAnd) && ct k l && !l.isEmpty | none => false⟩ ⟨d.v isAnd, d.t isAnd⟩ := by
  refine ⟨fun X E k e f r h => ?_, fun X E k e f r h => ?_⟩
  · simp only at h
    split at h
    · rename_i op l hx
      obtain ⟨p, rfl⟩ := asBool_of hx
      simp only [Bool.and_eq_true, decide_eq_true_eq, Bool.not_eq_true'] at h
      obtain ⟨⟨h1, h2⟩, h3⟩ := h
      have h0 : l ≠ [] := fun z => by rw [z] at h3; cases h3
      cases op with
      | And => rw [show isAnd = true from h1.symm]; exact g.va X E k l p f r h2 h0
      | Or => rw [show isAnd = false from h1.symm]; exact g.vo X E k l p f r h2 h0
    · cases h
  · simp only at h
    split at h
    · rename_i op l hx
      obtain ⟨p, rfl⟩ := asBool_of hx
      simp only [Bool.and_eq_true, decide_eq_true_eq, Bool.not_eq_true'] at h
      obtain ⟨⟨h1, h2⟩, h3⟩ := h
      have h0 : l ≠ [] := fun z => by rw [z] at h3; cases h3
      cases op with
      | And => rw [show isAnd = true from h1.symm]; exact pt_bool (g.ta X E k l p f r h2 h0)
      | Or => rw [show isAnd = false from h1.symm]; exact pt_bool (g.to X E k l p f r h2 h0)
    · cases h
theorem g_ite {ct : Ck → Expr → Bool} {dt : DT} {ca cb : Ck → Expr → Bool} {da db : DE} (gt : GoodT Γ nm T n ct dt) (ga : GoodE Γ nm T n ca da) (gb : GoodE Γ nm T n cb db) :
    Good Γ nm T n ⟨fun k e => match asIf e with | some (x, y, z) => ct k x && ca k y && cb k z | none => false, fun _ _ => false⟩ ⟨dIte dt da db, fun _ _ _ _ => False⟩ := by
  refine ⟨fun X E k e f r h => ?_, fun X E k e f r h => nomatch h⟩
  simp only at h
  split at h
  · rename_i x y z hx
    obtain ⟨p, rfl⟩ := asIf_of hx
    simp only [Bool.and_eq_true] at h
    exact ae_ite (gt X E k x f r h.1.1) (ga X E k y f r h.1.2) (gb X E k z f r h.2)
  · cases h
theorem g_idx {ca cb : Ck → Expr → Bool} {da db : DE} (ga : GoodE Γ nm T n ca da) (gb : GoodE Γ nm T n cb db) :
    GoodE Γ nm T n (fun k e => match asSub e with | some (x, y) => plainIx y && ca k x && cb k y | none => false) (d2 idxW da db) := fun X E k e f r h => by
  simp only at h
  split at h
  · rename_i x y hx
    obtain ⟨p, rfl⟩ := asSub_of hx
    simp only [Bool.and_eq_true] at h
    exact ae_idx f.K (ga X E k x f r h.1.2) (gb X E k y f r h.2) h.1.1
  · cases h
theorem g_dget {ca cb : Ck → Expr → Bool} {da db : DE} (ga : GoodE Γ nm T n ca da) (gb : GoodE Γ nm T n cb db) :
    GoodE Γ nm T n (fun k e => match asSub e with | some (x, y) => plainIx y && ca k x && cb k y | none => false) (dDget da db) := fun X E k e f r h => by
  simp only at h
  split at h
  · rename_i x y hx
    obtain ⟨p, rfl⟩ := asSub_of hx
    simp only [Bool.and_eq_true] at h
    exact ae_dget (by have := units_of f; omega) (ga X E k x f r h.1.2) (gb X E k y f r h.2) h.1.1
  · cases h
theorem g_slice {own : Bool} {ca : Ck → Expr → Bool} {da : DE} {cl ch : Ck → Option Expr → Bool} {cl' ch' : Option (Ck → Expr → Bool)} {dl dh : DO × DT} (ga : GoodE Γ nm T n ca da) (gl : GoodQ Γ nm T n cl cl' dl) (gh : GoodQ Γ nm T n ch ch' dh) :
    GoodE Γ nm T n (fun k e => match asSub e with
    | some (x, y) => (match asSlice y with | some (l, h) => ca k x && cl k l && ch k h | none => false)
    | none => false) (dSlice own da dl.1 dh.1) := fun X E k e f r h => by
  simp only at h
  split at h
  · rename_i x y hx
    obtain ⟨p, rfl⟩ := asSub_of hx
    split at h
    · rename_i l u hy
      obtain ⟨p2, rfl⟩ := asSlice_of hy
      simp only [Bool.and_eq_true] at h
      exact ae_slice f.K (ga X E k x f r h.1.1) (gl.o X E k l f r h.1.2) (gh.o X E k u f r h.2)
    · cases h
  · cases h
theorem g_call {i : Nat} {cs ct : Ck → List Expr → Bool} {d : DXs} (g : GoodS Γ nm T n cs ct d) :
    GoodE Γ nm T n (fun k e => match asCall e with | some (g, l, _) => glName k (nm.fn i) g && l.all noStar && cs k l | none => false) (dCall (Γ.fn i) d.a) := fun X E k e f r h => by
  simp only at h
  split at h
  · rename_i gg l p hx
    have hx := asCall_of hx
    subst hx
    simp only [Bool.and_eq_true] at h
    obtain ⟨⟨h1, h2⟩, h3⟩ := h
    obtain ⟨x, q, h4, rfl, hg, hn⟩ := glName_of r h1
    have A := g.a X E k l f r h3
    have hr := f.room
    cases l with
    | nil =>
      rw [g.nil A.2.2.symm]
      exact ae_call0 (f.fn i x h4) hr f.ps hg hn
    | cons a l => exact ae_call (f.fn i x h4) hr f.ps hg hn A.1 h2
  · cases h
theorem g_new {own : Bool} {i : Nat} {cs ct : Ck → List Expr → Bool} {d : DXs} (g : GoodS Γ nm T n cs ct d) :
    GoodE Γ nm T n (fun k e => match asCall e with | some (g, l, _) => glName k (nm.cl i) g && l.all noStar && cs k l | none => false) (dNew own i (Γ.ini i) d.a) := fun X E k e f r h => by
  simp only at h
  split at h
  · rename_i gg l p hx
    have hx := asCall_of hx
    subst hx
    simp only [Bool.and_eq_true] at h
    obtain ⟨⟨h1, h2⟩, h3⟩ := h
    obtain ⟨x, q, h4, rfl, hg, hn⟩ := glName_of r h1
    have A := g.a X E k l f r h3
    cases l with
    | nil =>
      rw [g.nil A.2.2.symm]
      exact ae_new0 (f.cl i x h4) f.room f.ps hg hn
    | cons a l => exact ae_new (f.cl i x h4) f.room f.ps hg hn A.1 h2
  · cases h
theorem g_meth {m : Nat} {co : Ck → Expr → Bool} {do_ : DE} {cs ct : Ck → List Expr → Bool} {d : DXs} (go : GoodE Γ nm T n co do_) (g : GoodS Γ nm T n cs ct d) :
    GoodE Γ nm T n (fun k e => match asCall e with
    | some (g, l, p) => (match asAttr g with
      | some (ov, x, ap) => decide (x = nm.me m) && plainBase ov && (ap.endLine == p.line) && l.all noStar && decide (l.length < 29) && co k ov && cs k l
      | none => false)
    | none => false) (dMeth (fun c => Γ.me c m) (Γ.meN m) do_ d.a) := fun X E k e f r h => by
  simp only at h
  split at h
  · rename_i gg l p hx
    have hx := asCall_of hx
    subst hx
    split at h
    · rename_i ov x ap hy
      have hy := asAttr_of hy
      subst hy
      simp only [Bool.and_eq_true, decide_eq_true_eq] at h
      obtain ⟨⟨⟨⟨⟨⟨rfl, h1⟩, h2⟩, h3⟩, h4⟩, h5⟩, h6⟩ := h
      have A := g.a X E k l f r h6
      have hr := f.room
      have O := go X E k ov f r h5
      rw [← f.meN m]
      have hm : ∀ c p, (fun c => Γ.me c m) c = some p → MeF T X (n + 1) c (Γ.meN m) p := fun c p z => f.me m c p z
      cases l with
      | nil =>
        rw [g.nil A.2.2.symm]
        exact ae_meth0 f.flds hm hr f.ps O h1 h2
      | cons a l => exact ae_meth f.flds hm hr f.ps O A.1 h1 h2 h3 h4
    · cases h
  · cases h
theorem g_attr {fl : Str} {co : Ck → Expr → Bool} {do_ : DE} (go : GoodE Γ nm T n co do_) :
    GoodE Γ nm T n (fun k e => match asAttr e with | some (ov, x, _) => decide (x = fl) && nm.flds.contains fl && plainBase ov && co k ov | none => false) (dAttr do_ fl) := fun X E k e f r h => by
  simp only at h
  split at h
  · rename_i ov x ap hy
    have hy := asAttr_of hy
    subst hy
    simp only [Bool.and_eq_true, decide_eq_true_eq] at h
    obtain ⟨⟨⟨rfl, h1⟩, h2⟩, h3⟩ := h
    exact ae_attr f.flds (List.contains_iff_mem.mp h1) (go X E k ov f r h3) h2
  · cases h
theorem g_blt {own : Bool} {b : BI} {cs ct : Ck → List Expr → Bool} {d : DXs} (g : GoodS Γ nm T n cs ct d) :
    GoodE Γ nm T n (fun k e => match asCall e with | some (g, l, _) => freeName nm k b.name g && l.all noStar && !l.isEmpty && cs k l | none => false) (dN (b.w own) d.a) := fun X E k e f r h => by
  simp only at h
  split at h
  · rename_i gg l p hx
    have hx := asCall_of hx
    subst hx
    simp only [Bool.and_eq_true] at h
    obtain ⟨⟨⟨h1, h2⟩, h3⟩, h4⟩ := h
    obtain ⟨q, rfl, hg, hm⟩ := freeName_of f r h1
    cases l with
    | nil => cases h3
    | cons a l => exact ae_blt f.K f.calm hg hm (g.a X E k (a :: l) f r h4).1 h2
  · cases h
theorem g_bm {own : Bool} {b : BM} {co : Ck → Expr → Bool} {do_ : DE} {cs ct : Ck → List Expr → Bool} {d : DXs} (go : GoodE Γ nm T n co do_) (g : GoodS Γ nm T n cs ct d) :
    GoodE Γ nm T n (fun k e => match asCall e with
    | some (g, l, p) => (match asAttr g with
      | some (ov, x, ap) => decide (x = b.name) && plainBase ov && (ap.endLine == p.line) && l.all noStar && decide (l.length < 29) && co k ov && cs k l
      | none => false)
    | none => false) (dBM own b do_ d.a) := fun X E k e f r h => by
  simp only at h
  split at h
  · rename_i gg l p hx
    have hx := asCall_of hx
    subst hx
    split at h
    · rename_i ov x ap hy
      have hy := asAttr_of hy
      subst hy
      simp only [Bool.and_eq_true, decide_eq_true_eq] at h
      obtain ⟨⟨⟨⟨⟨⟨rfl, h1⟩, h2⟩, h3⟩, h4⟩, h5⟩, h6⟩ := h
      have A := g.a X E k l f r h6
      have O := go X E k ov f r h5
      cases l with
      | nil =>
        rw [g.nil A.2.2.symm]
        exact ae_bm0 f.K O h1 h2
      | cons a l => exact ae_bm f.K O A.1 h3 h1 h2 h4
    · cases h
  · cases h
theorem g_isi {t : Ty} {ca : Ck → Expr → Bool} {da : DE} (ga : GoodE Γ nm T n ca da) :
    GoodE Γ nm T n (fun k e => match asCall e with
    | some (g, [x, y], _) => freeName nm k "isinstance" g && (match t.asName with | some z => freeName nm k z y | none => false) && noStar x && ca k x
    | _ => false) (dIsi t da) := fun X E k e f r h => by
  simp only at h
  split at h
  · rename_i gg x y p hx
    have hx := asCall_of hx
    subst hx
    simp only [Bool.and_eq_true] at h
    obtain ⟨⟨⟨h1, h2⟩, h3⟩, h4⟩ := h
    obtain ⟨q, rfl, hg, hm⟩ := freeName_of f r h1
    split at h2
    · rename_i z hz
      obtain ⟨q2, rfl, hg2, hm2⟩ := freeName_of f r h2
      exact ae_isi f.K hg hm hz hg2 hm2 (ga X E k x f r h4) h3
    · cases h2
  · cases h
theorem g_isi2 {t u : Ty} {ca : Ck → Expr → Bool} {da : DE} (ga : GoodE Γ nm T n ca da) :
    GoodE Γ nm T n (fun k e => match asCall e with
    | some (g, [x, y], _) => freeName nm k "isinstance" g && (match t.asName, u.asName, asTuple y with | some z, some z', some [y1, y2] => freeName nm k z y1 && freeName nm k z' y2 | _, _, _ => false) && noStar x && ca k x
    | _ => false) (dIsi2 t u da) := fun X E k e f r h => by
  simp only at h
  split at h
  · rename_i gg x y p hx
    have hx := asCall_of hx
    subst hx
    simp only [Bool.and_eq_true] at h
    obtain ⟨⟨⟨h1, h2⟩, h3⟩, h4⟩ := h
    obtain ⟨q, rfl, hg, hm⟩ := freeName_of f r h1
    split at h2
    · rename_i z z' y1 y2 hz hz' hy
      obtain ⟨j, p3, rfl⟩ := asTuple_of hy
      simp only [Bool.and_eq_true] at h2
      obtain ⟨q2, rfl, hg2, hm2⟩ := freeName_of f r h2.1
      obtain ⟨q3, rfl, hg3, hm3⟩ := freeName_of f r h2.2
      exact ae_isi2 f.K hg hm hz hg2 hm2 hz' hg3 hm3 (ga X E k x f r h4) h3
    · cases h2
  · cases h
theorem g_din {neg : Bool} {ca cb : Ck → Expr → Bool} {da db : DE} (ga : GoodE Γ nm T n ca da) (gb : GoodE Γ nm T n cb db) :
    Good Γ nm T n ⟨fun k e => match asCmp1 e with | some (x, o, y) => decide (o = if neg then CmpOp.NotIn else CmpOp.In) && noSet y && ca k x && cb k y | none => false,
      fun k e => match asCmp1 e with | some (x, o, y) => decide (o = if neg then CmpOp.NotIn else CmpOp.In) && noSet y && ca k x && cb k y | none => false⟩ ⟨dDin neg da db, dB (dDin neg da db)⟩ := by
  have key : ∀ X E k e, Fx Γ nm T n X E → Cor k X → (match asCmp1 e with | some (x, o, y) => decide (o = if neg then CmpOp.NotIn else CmpOp.In) && noSet y && ca k x && cb k y | none => false) = true →
      PE X e (cE T E (dDin neg da db)) ∧ PT X e (cT T E (dB (dDin neg da db))) := fun X E k e f r h => by
    split at h
    · rename_i x o y hb
      obtain ⟨p, rfl⟩ := asCmp1_of hb
      simp only [Bool.and_eq_true, decide_eq_true_eq] at h
      obtain ⟨⟨⟨rfl, hc⟩, h1⟩, h2⟩ := h
      have a := ga X E k x f r h1
      have b := gb X E k y f r h2
      have hu : X.A.units + 1 < cLine := by have := units_of f; omega
      cases neg with
      | false => exact ⟨pe_cmp (ac_din hu a b) (marks_of hc), ct_pc (ac_din hu a b) (marks_of hc)⟩
      | true => exact ⟨pe_cmp (ac_dnotin hu a b) (marks_of hc), ct_pc (ac_dnotin hu a b) (marks_of hc)⟩
    · cases h
  exact ⟨fun X E k e f r h => (key X E k e f r h).1, fun X E k e f r h => (key X E k e f r h).2⟩
theorem g_dnew : GoodE Γ nm T n (fun _ e => match asDict e with | some ([], []) => true | _ => false) dDnew := fun X E k e f r h => by
  simp only at h
  split at h
  · rename_i hx
    obtain ⟨p, rfl⟩ := asDict_of hx
    exact ae_dnew
  · cases h
theorem g_kidx {g : Nat} {ca : Ck → Expr → Bool} {da : DE} (ga : GoodE Γ nm T n ca da) :
    GoodE Γ nm T n (fun k e => match asSub e with | some (x, y) => glName k (nm.kd g) x && plainIx y && ca k y | none => false) (dKidx (Γ.kd g) da) := fun X E k e f r h => by
  simp only at h
  split at h
  · rename_i x y hx
    obtain ⟨p, rfl⟩ := asSub_of hx
    simp only [Bool.and_eq_true] at h
    obtain ⟨z, q, h1, rfl, hg, hn⟩ := glName_of r h.1.1
    exact ae_kidx (f.kd g z h1) hg hn (ga X E k y f r h.2) h.1.2
  · cases h
theorem g_kin {neg : Bool} {g : Nat} {ca : Ck → Expr → Bool} {da : DE} (ga : GoodE Γ nm T n ca da) :
    Good Γ nm T n ⟨fun k e => match asCmp1 e with | some (x, o, y) => decide (o = if neg then CmpOp.NotIn else CmpOp.In) && glName k (nm.kd g) y && ca k x | none => false,
      fun k e => match asCmp1 e with | some (x, o, y) => decide (o = if neg then CmpOp.NotIn else CmpOp.In) && glName k (nm.kd g) y && ca k x | none => false⟩ ⟨dKin neg (Γ.kd g) da, dB (dKin neg (Γ.kd g) da)⟩ := by
  have key : ∀ X E k e, Fx Γ nm T n X E → Cor k X → (match asCmp1 e with | some (x, o, y) => decide (o = if neg then CmpOp.NotIn else CmpOp.In) && glName k (nm.kd g) y && ca k x | none => false) = true →
      PE X e (cE T E (dKin neg (Γ.kd g) da)) ∧ PT X e (cT T E (dB (dKin neg (Γ.kd g) da))) := fun X E k e f r h => by
    split at h
    · rename_i x o y hb
      obtain ⟨p, rfl⟩ := asCmp1_of hb
      simp only [Bool.and_eq_true, decide_eq_true_eq] at h
      obtain ⟨⟨rfl, hc⟩, h1⟩ := h
      obtain ⟨z, q, h2, rfl, hg, hn⟩ := glName_of r hc
      have a := ga X E k x f r h1
      cases neg with
      | false => exact ⟨ae_kin (f.kd g z h2) hg hn a, at_kin (f.kd g z h2) hg hn a⟩
      | true => exact ⟨ae_knotin (f.kd g z h2) hg hn a, at_knotin (f.kd g z h2) hg hn a⟩
    · cases h
  exact ⟨fun X E k e f r h => (key X E k e f r h).1, fun X E k e f r h => (key X E k e f r h).2⟩
theorem g_kget {g : Nat} {ca : Ck → Expr → Bool} {da : DE} (ga : GoodE Γ nm T n ca da) :
    GoodE Γ nm T n (fun k e => match asCall e with
    | some (f, [x], p) => (match asAttr f with
      | some (ov, y, ap) => decide (y = "get") && glName k (nm.kd g) ov && (ap.endLine == p.line) && noStar x && ca k x
      | none => false)
    | _ => false) (dKget (Γ.kd g) da) := fun X E k e f r h => by
  simp only at h
  split at h
  · rename_i gg x p hx
    have hx := asCall_of hx
    subst hx
    split at h
    · rename_i ov y ap hy
      have hy := asAttr_of hy
      subst hy
      simp only [Bool.and_eq_true, decide_eq_true_eq] at h
      obtain ⟨⟨⟨⟨rfl, h1⟩, h2⟩, h3⟩, h4⟩ := h
      obtain ⟨z, q, h5, rfl, hg, hn⟩ := glName_of r h1
      exact ae_kget (f.kd g z h5) hg hn (ga X E k x f r h4) h3 h2
    · cases h
  · cases h
theorem g_frz {ca : Ck → Expr → Bool} {da : DE} (ga : GoodE Γ nm T n ca da) : GoodE Γ nm T n ca (dFrz da) := fun X E k e f r h => PE.imp (ga X E k e f r h) fun σ H Q q => by
  obtain ⟨F, σw, M, Qw, Ew, rs, S, t, kq, kx⟩ := q
  refine ⟨F, σw, M, _, Ew, rs, S, t, fun w M1 v H1 F1 e1 r1 S1 q => ?_, kx⟩
  cases w with
  | ref a =>
    obtain ⟨o, h1, q⟩ := q
    obtain ⟨e2, S2⟩ := S1.freeze h1
    obtain ⟨_, ho, h2, h3⟩ := S1.ob a o h1
    rw [RW.ref_.mp r1]
    refine kq _ _ _ _ _ (e1.trans e2) ?_ S2 q
    cases o with
    | lst ws =>
      obtain ⟨vs, rfl, h4⟩ := h3
      exact RW.lst_.mpr ⟨a, vs, rfl, .inr rfl, h2, h4.ext e2⟩
    | dk kvs =>
      obtain ⟨us, rfl, h4⟩ := h3
      exact RW.dk_.mpr ⟨a, us, rfl, .inr rfl, h2, RK.names' h4, RK.vals' (RK.ext e2 h4)⟩
    | dt kvs =>
      obtain ⟨us, rfl, h4⟩ := h3
      exact RW.dt_.mpr ⟨a, us, rfl, .inr rfl, h2, RK.names' h4, RK.vals' (RK.ext e2 h4)⟩
    | ins c fs =>
      obtain ⟨dx, us, rfl, h4⟩ := h3
      exact RW.obj_.mpr ⟨a, dx, us, rfl, .inr rfl, h2, h4.names, (h4.ext e2).vals⟩
  | _ => exact q.elim
theorem pe_bool1 {X : Cx} {op : BoolOp} {a : Expr} {pos : Pos} {t : TE} (h : PE X a t) : PE X (.BoolOp op [a] pos) t := ⟨h.run⟩
theorem g_nil : GoodS Γ nm T n (fun _ l => match l with | [] => true | _ => false) (fun _ l => match l with | [] => true | _ => false) ⟨dNil, fun _ _ _ _ _ => False, fun _ _ _ _ _ => False, 0⟩ where
  a X E k l f r h := by cases l with
    | nil => exact ⟨aa_nil, rfl, rfl⟩
    | cons _ _ => cases h
  nt k l h := by cases l with
    | nil => rfl
    | cons _ _ => cases h
  nil _ := rfl
  va X E k l p f r h h0 := by cases l with
    | nil => exact absurd rfl h0
    | cons _ _ => cases h
  vo X E k l p f r h h0 := by cases l with
    | nil => exact absurd rfl h0
    | cons _ _ => cases h
  ta X E k l p f r h h0 := by cases l with
    | nil => exact absurd rfl h0
    | cons _ _ => cases h
  to X E k l p f r h h0 := by cases l with
    | nil => exact absurd rfl h0
    | cons _ _ => cases h
theorem g_cons {c : Ch} {d : DX} {cs ct : Ck → List Expr → Bool} {ds : DXs} (g : Good Γ nm T n c d) (gs : GoodS Γ nm T n cs ct ds) :
    GoodS Γ nm T n (fun k l => match l with | x :: xs => noStar x && c.e k x && cs k xs | [] => false) (fun k l => match l with | x :: xs => c.t k x && ct k xs | [] => false)
      ⟨dCons d.e ds.a, fun isAnd => if ds.n = 0 then d.e else dJoinV isAnd d.e (ds.v isAnd), fun isAnd => if ds.n = 0 then d.t else dJoinT isAnd d.t (ds.t isAnd), ds.n + 1⟩ where
  a X E k l f r h := by
    cases l with
    | nil => cases h
    | cons x xs =>
      simp only [Bool.and_eq_true] at h
      have A := gs.a X E k xs f r h.2
      exact ⟨aa_cons (g.e X E k x f r h.1.2) A.1 h.1.1, by rw [List.all_cons, h.1.1, A.2.1]; rfl, by rw [List.length_cons, A.2.2]⟩
  nt k l h := by
    cases l with
    | nil => cases h
    | cons x xs =>
      simp only [Bool.and_eq_true] at h
      rw [List.length_cons, gs.nt k xs h.2]
  nil h := nomatch h
  va X E k l p f r h h0 := by
    cases l with
    | nil => cases h
    | cons x xs =>
      simp only [Bool.and_eq_true] at h
      have A := gs.a X E k xs f r h.2
      have B := g.e X E k x f r h.1.2
      cases xs with
      | nil =>
        have : ds.n = 0 := A.2.2.symm
        simp only [this, if_true]
        exact pe_bool1 B
      | cons y ys =>
        have : ds.n ≠ 0 := by rw [← A.2.2]; simp
        simp only [this, if_false]
        exact ae_andV B (gs.va X E k (y :: ys) p f r h.2 (by simp))
  vo X E k l p f r h h0 := by
    cases l with
    | nil => cases h
    | cons x xs =>
      simp only [Bool.and_eq_true] at h
      have A := gs.a X E k xs f r h.2
      have B := g.e X E k x f r h.1.2
      cases xs with
      | nil =>
        have : ds.n = 0 := A.2.2.symm
        simp only [this, if_true]
        exact pe_bool1 B
      | cons y ys =>
        have : ds.n ≠ 0 := by rw [← A.2.2]; simp
        simp only [this, if_false]
        exact ae_orV B (gs.vo X E k (y :: ys) p f r h.2 (by simp))
  ta X E k l p f r h h0 := by
    cases l with
    | nil => cases h
    | cons x xs =>
      simp only [Bool.and_eq_true] at h
      have A := gs.nt k xs h.2
      have B := g.t X E k x f r h.1
      cases xs with
      | nil =>
        have : ds.n = 0 := A.symm
        simp only [this, if_true]
        exact pw_and1 B
      | cons y ys =>
        have : ds.n ≠ 0 := by rw [← A]; simp
        simp only [this, if_false]
        exact aw_and B (gs.ta X E k (y :: ys) p f r h.2 (by simp))
  to X E k l p f r h h0 := by
    cases l with
    | nil => cases h
    | cons x xs =>
      simp only [Bool.and_eq_true] at h
      have A := gs.nt k xs h.2
      have B := g.t X E k x f r h.1
      cases xs with
      | nil =>
        have : ds.n = 0 := A.symm
        simp only [this, if_true]
        exact pw_or1 B
      | cons y ys =>
        have : ds.n ≠ 0 := by rw [← A]; simp
        simp only [this, if_false]
        exact aw_or B (gs.to X E k (y :: ys) p f r h.2 (by simp))
theorem putK_new {k : Key} {v : V} : ∀ {kvs : List (Key × V)}, k ∉ kvs.map (·.1) → putK kvs k v = kvs ++ [(k, v)] := fun {kvs} h => by
  unfold putK
  rw [if_neg]
  rw [List.any_eq_true]
  rintro ⟨p, hp, e⟩
  exact h (List.mem_map.mpr ⟨p, hp, of_decide_eq_true e⟩)
theorem mergeK_new : ∀ {more kvs : List (Key × V)}, (more.map (·.1)).Nodup → (∀ k ∈ more.map (·.1), k ∉ kvs.map (·.1)) → mergeK kvs more = kvs ++ more
  | [], kvs, _, _ => by show kvs = _; rw [List.append_nil]
  | (k, v) :: more, kvs, nd, h => by
    rw [List.map_cons, List.nodup_cons] at nd
    show mergeK (putK kvs k v) more = _
    rw [putK_new (h k (by simp)), mergeK_new nd.2, List.append_assoc]
    · rfl
    · intro j hj
      rw [List.map_append, List.mem_append]
      rintro (z | z)
      · exact h j (by simp [hj]) z
      · rw [List.map_cons, List.map_nil, List.mem_singleton] at z
        subst z
        exact nd.1 hj
end WL
namespace WL
open PySem PySem.Spec PyProof.Rows L2
variable {Γ : Gam} {nm : Nm} {T : Tb} {n : Nat}
def zipV : List Key → List V → List (Key × V)
  | k :: ks, w :: ws => (k, w) :: zipV ks ws
  | _, _ => []
theorem zipV_rk {F : Addr → Prop} {H : Hp} : ∀ {ks : List Key} {ws : List W} {vs : List V}, RWs T F H ws vs → RK T F H (zipK ks ws) (zipV ks vs)
  | [], ws, vs, h => by simp [zipK, zipV]; exact rfl
  | k :: ks, [], vs, h => by rw [RWs.nil_.mp h]; exact rfl
  | k :: ks, w :: ws, vs, h => by
    obtain ⟨v, r, rfl, h1, h2⟩ := RWs.cons_.mp h
    exact ⟨v, _, rfl, h1, zipV_rk h2⟩
theorem zipV_sub : ∀ {ks : List Key} {vs : List V}, ((zipV ks vs).map (·.1)).Sublist ks
  | [], vs => by simp [zipV]
  | k :: ks, [] => by simp [zipV]
  | k :: ks, v :: vs => by
    simp only [zipV, List.map_cons]
    exact zipV_sub.cons₂ k
theorem nodup_inr : ∀ {ks : List Str}, ks.Nodup → (ks.map (Sum.inr : Str → Key)).Nodup
  | [], _ => List.nodup_nil
  | k :: ks, h => by
    rw [List.nodup_cons] at h
    rw [List.map_cons, List.nodup_cons]
    refine ⟨fun z => ?_, nodup_inr h.2⟩
    obtain ⟨y, hy, e⟩ := List.mem_map.mp z
    cases e
    exact h.1 hy
structure GoodP (Γ : Gam) (nm : Nm) (T : Tb) (n : Nat) (c : Ck → List Expr → Bool) (d : DA) : Prop where
  p : ∀ X E k ks kl l pos, Fx Γ nm T n X E → Cor k X → keysOf ks kl = true → c k l = true → kl.length = l.length → ∃ trs, PPs X pos kl l trs ∧
    ∀ σ H Q, cA T E d σ H (fun vs H' => Q ((zipV (ks.map Sum.inr) vs).map fun kv => (kV kv.1, kv.2)) H') → tPairs trs σ H Q
theorem keys_some : ∀ {ks : List Str} {kl : List (Option Expr)}, keysOf ks kl = true → kl.all (·.isSome) = true ∧ kl.length = ks.length
  | [], [], _ => ⟨rfl, rfl⟩
  | [], _ :: _, h => nomatch h
  | _ :: _, [], h => nomatch h
  | _ :: _, none :: _, h => nomatch h
  | k :: ks, some e :: es, h => by
    unfold keysOf at h
    rw [Bool.and_eq_true] at h
    have := keys_some h.2
    exact ⟨by rw [List.all_cons, this.1]; rfl, by rw [List.length_cons, List.length_cons, this.2]⟩
theorem gp_nil : GoodP Γ nm T n (fun _ l => match l with | [] => true | _ => false) dNil := ⟨fun X E k ks kl l pos f r hk h hl => by
  cases l with
  | cons _ _ => cases h
  | nil =>
    cases kl with
    | cons _ _ => cases hl
    | nil =>
      cases ks with
      | cons _ _ => cases hk
      | nil =>
        refine ⟨[], pps_nil, fun σ H Q q => ?_⟩
        obtain ⟨F, σw, M, Qw, Ew, rs, S, t, kq, kx⟩ := q
        exact kq [] M [] H F .refl .nil S t⟩
theorem gp_cons {c : Ch} {d : DX} {cs : Ck → List Expr → Bool} {ds : DA} (g : Good Γ nm T n c d) (gs : GoodP Γ nm T n cs ds) :
    GoodP Γ nm T n (fun k l => match l with | x :: xs => noStar x && c.e k x && cs k xs | [] => false) (dCons d.e ds) := ⟨fun X E k ks kl l pos f r hk h hl => by
  cases l with
  | nil => cases h
  | cons x xs =>
    simp only [Bool.and_eq_true] at h
    cases ks with
    | nil => cases kl with
      | nil => cases hl
      | cons _ _ => cases hk
    | cons key ks =>
      cases kl with
      | nil => cases hk
      | cons ke kl =>
        cases ke with
        | none => cases hk
        | some ke =>
          unfold keysOf at hk
          simp only [Bool.and_eq_true] at hk
          obtain ⟨hk1, hk2⟩ := hk
          split at hk1
          · rename_i y hy
            obtain ⟨j, p, rfl⟩ := asConst_of hy
            have hk1 := of_decide_eq_true hk1
            subst hk1
            obtain ⟨trs, h1, h2⟩ := gs.p X E k ks kl xs pos f r hk2 h.2 (by simpa using hl)
            refine ⟨_, pps_cons pe_str (g.e X E k x f r h.1.2) h1, fun σ H Q q => ?_⟩
            obtain ⟨F, σw, M, Qw, Ew, rs, S, t, kq, kx⟩ := q
            refine ⟨F, σw, M, _, Ew, rs, S, t, fun x M1 v H1 F1 e1 r1 S1 t1 => ?_, kx⟩
            refine h2 σ H1 _ ⟨F1, σw, M1, _, Ew, rs.ext e1, S1, t1, fun xs M2 vs H2 F2 e2 r2 S2 q => ?_, kx.ext e1⟩
            exact kq _ _ (v :: vs) _ _ (e1.trans e2) (.cons (r1.ext e2) r2) S2 q
          · cases hk1⟩
theorem g_disp {own : Bool} {ks : List Str} {cs ct : Ck → List Expr → Bool} {d : DXs} (g : GoodP Γ nm T n cs d.a) :
    GoodE Γ nm T n (fun k e => match asDict e with | some (kl, vl) => keysOf ks kl && decide (ks.Nodup) && !ks.isEmpty && decide (ks.length ≤ 15) && decide (kl.length = vl.length) && cs k vl | none => false) (dDisp own ks d.a) := fun X E k e f r h => by
  simp only at h
  split at h
  · rename_i kl vl hx
    obtain ⟨p, rfl⟩ := asDict_of hx
    simp only [Bool.and_eq_true, decide_eq_true_eq, Bool.not_eq_true'] at h
    obtain ⟨⟨⟨⟨⟨h1, h2⟩, h3⟩, h4⟩, h5⟩, h6⟩ := h
    obtain ⟨trs, h7, h8⟩ := g.p X E k ks kl vl p f r h1 h6 h5
    have ⟨a1, a2⟩ := keys_some h1
    have h0 : kl ≠ [] := fun z => by
      rw [z] at a2
      cases ks with
      | nil => cases h3
      | cons _ _ => cases a2
    refine PE.imp (pe_disp h7 a1 h5 h0 (by rw [a2]; exact h4)) fun σ H Q q => ?_
    obtain ⟨F, σw, M, Qw, Ew, rs, S, t, kq, kx⟩ := q
    intro p hp
    obtain ⟨e, S'⟩ := S.newM (o := .dK []) (u := .dk []) hp ⟨[], rfl, rfl⟩
    refine h8 σ _ _ ⟨F, σw, _, _, Ew, rs.ext e, S', t p (S.fresh hp).1, fun ws M2 vs H2 F2 e2 r2 S2 ⟨q1, q2⟩ => ?_, kx.ext e⟩
    obtain ⟨us, hu, ru⟩ := RK.of_ob S2 q1
    have hus : us = [] := ru
    subst hus
    have rk := zipV_rk (ks := ks.map Sum.inr) r2
    have ndk : (ks.map (Sum.inr : Str → Key)).Nodup := nodup_inr h2
    have nd : ((zipV (ks.map Sum.inr) vs).map (·.1)).Nodup := zipV_sub.nodup ndk
    refine ⟨hu, zipV (ks.map Sum.inr) vs, rfl, ?_, ?_⟩
    · have := zipV_sub (ks := ks.map Sum.inr) (vs := vs).length_le
      simp at this
      omega
    · rw [mergeK_new nd (by simp), List.nil_append]
      obtain ⟨e3, S3⟩ := S2.put (o := .dK (zipV (ks.map Sum.inr) vs)) (u := .dk (zipK (ks.map Sum.inr) ws)) q1 ⟨_, rfl, rk⟩
      have ee := (e.trans e2).trans e3
      cases own with
      | true => exact kq _ _ _ _ _ ee (RW.ref_.mpr rfl) S3 q2
      | false =>
        obtain ⟨e4, S4⟩ := S3.freeze (a := p) (u := .dk (zipK (ks.map Sum.inr) ws)) (by unfold mup; rw [if_pos rfl])
        have hm : mdel (mup M2 p (.dk (zipK (ks.map Sum.inr) ws))) p = mdel M2 p := by
          funext b
          unfold mdel mup
          by_cases hb : b = p
          · simp [hb]
          · simp [hb]
        rw [hm] at S4
        refine kq _ _ _ _ _ (ee.trans e4) (RW.dk_.mpr ⟨p, _, rfl, .inr rfl, upd_same, RK.names' rk, ?_⟩) S4 q2
        exact RK.vals' (RK.ext (e3.trans e4) rk)
  · cases h
theorem g_name {X : Cx} {E : XK} {k : Ck} {i : Nat} {e : Expr} (f : Fx Γ nm T n X E) (r : Cor k X) (h : (match asName e with
    | some x => decide (k.N[i]? = some x) && locB k.sc x && (k.fno x || decide (k.sc.names.lookup x = some .local))
    | none => false) = true) : ∃ x p, e = .Name x p ∧ X.N[i]? = some x ∧ Loc X.env.scope x ∧ (X.fn x = true ∨ X.env.scope.names.lookup x = some .local) := by
  split at h
  · rename_i x hx
    obtain ⟨p, rfl⟩ := asName_of hx
    simp only [Bool.and_eq_true, Bool.or_eq_true, decide_eq_true_eq] at h
    refine ⟨x, p, rfl, by rw [r.N]; exact h.1.1, r.loc h.1.2, ?_⟩
    rcases h.2 with z | z
    · exact .inl (r.fno x z)
    · exact .inr (by rw [r.sc]; exact z)
  · cases h
theorem g_names {X : Cx} {E : XK} {k : Ck} (f : Fx Γ nm T n X E) (r : Cor k X) : ∀ {is : List Nat} {es : List Expr}, chkTg.chkNames k is es = true → Paired (fun (e : Expr) (i : Nat) => PG X e (gName i)) es is
  | [], [], _ => .nil
  | [], _ :: _, h => nomatch h
  | _ :: _, [], h => nomatch h
  | i :: is, e :: es, h => by
    unfold chkTg.chkNames at h
    rw [Bool.and_eq_true] at h
    obtain ⟨x, p, rfl, h1, h2, h3⟩ := g_name f r h.1
    exact .cons (pg_name f.nd h1 h2 h3) (g_names f r h.2)
theorem g_tg {X : Cx} {E : XK} {k : Ck} (f : Fx Γ nm T n X E) (r : Cor k X) {tg : Tg} {e : Expr} (h : chkTg k tg e = true) : PG X e (cG T tg) := by
  cases tg with
  | name i =>
    obtain ⟨x, p, rfl, h1, h2, h3⟩ := g_name f r h
    exact ag_name f.nd h1 h2 h3
  | tup is =>
    unfold chkTg at h
    simp only at h
    split at h
    · rename_i l hl
      obtain ⟨j, p, rfl⟩ := asTuple_of hl
      rw [Bool.and_eq_true] at h
      exact ag_tup f.K f.calm h.1 (g_names f r h.2)
    · cases h
theorem go_none : GoodQ Γ nm T n (fun _ l => match l with | none => true | _ => false) none (dNoPart, dYes) := ⟨fun X E k l f r h => (by
  cases l with
  | none => exact ao_none
  | some _ => cases h), .inl ⟨rfl, rfl⟩⟩
theorem go_some {c : Ch} {d : DX} (g : Good Γ nm T n c d) : GoodQ Γ nm T n (fun k l => match l with | some x => c.e k x | _ => false) (some c.t) (dPart d.e, d.t) := ⟨fun X E k l f r h => (by
  cases l with
  | none => cases h
  | some x => exact ao_some (g.e X E k x f r h)), .inr ⟨c.t, rfl, g.t⟩⟩
theorem gi_rg1 {ca : Ck → Expr → Bool} {da : DE} (ga : GoodE Γ nm T n ca da) :
    GoodI Γ nm T n (fun k _ x => (match asCall x with | some (g, [y], _) => freeName nm k "range" g && noStar y && ca k y | _ => false)) (iRg1 da) := fun X E k t e f r h => by
  simp only at h
  split at h
  · rename_i gg y p hx
    have hx := asCall_of hx
    subst hx
    simp only [Bool.and_eq_true] at h
    obtain ⟨q, rfl, hg, hm⟩ := freeName_of f r h.1.1
    exact ai_rg1 hg hm (ga X E k y f r h.2) h.1.2
  · cases h
theorem gi_rg2 {ca cb : Ck → Expr → Bool} {da db : DE} (ga : GoodE Γ nm T n ca da) (gb : GoodE Γ nm T n cb db) :
    GoodI Γ nm T n (fun k _ x => (match asCall x with | some (g, [y, z], _) => freeName nm k "range" g && noStar y && noStar z && ca k y && cb k z | _ => false)) (iRg2 da db) := fun X E k t e f r h => by
  simp only at h
  split at h
  · rename_i gg y z p hx
    have hx := asCall_of hx
    subst hx
    simp only [Bool.and_eq_true] at h
    obtain ⟨⟨⟨⟨h1, h2⟩, h3⟩, h4⟩, h5⟩ := h
    obtain ⟨q, rfl, hg, hm⟩ := freeName_of f r h1
    exact ai_rg2 hg hm (ga X E k y f r h4) (gb X E k z f r h5) h2 h3
  · cases h
theorem isTup_of {e : Expr} (h : isTupE e = true) : ∃ l j p, e = .Tuple l j p := by
  cases e <;> first | exact ⟨_, _, _, rfl⟩ | cases h
theorem gi_zip {ca cb : Ck → Expr → Bool} {da db : DE} (ga : GoodE Γ nm T n ca da) (gb : GoodE Γ nm T n cb db) :
    GoodI Γ nm T n (fun k t x => isTupE t && (match asCall x with | some (g, [y, z], _) => freeName nm k "zip" g && noStar y && noStar z && ca k y && cb k z | _ => false)) (iZip da db) := fun X E k t e f r h => by
  simp only [Bool.and_eq_true] at h
  obtain ⟨ht, h⟩ := h
  obtain ⟨l, j, p', rfl⟩ := isTup_of ht
  split at h
  · rename_i gg y z p hx
    have hx := asCall_of hx
    subst hx
    simp only [Bool.and_eq_true] at h
    obtain ⟨⟨⟨⟨h1, h2⟩, h3⟩, h4⟩, h5⟩ := h
    obtain ⟨q, rfl, hg, hm⟩ := freeName_of f r h1
    exact ai_zip f.K hg hm (ga X E k y f r h4) (gb X E k z f r h5) h2 h3
  · cases h
theorem gi_enum {ca : Ck → Expr → Bool} {da : DE} (ga : GoodE Γ nm T n ca da) :
    GoodI Γ nm T n (fun k t x => isTupE t && (match asCall x with | some (g, [y], _) => freeName nm k "enumerate" g && noStar y && ca k y | _ => false)) (iEnumD da) := fun X E k t e f r h => by
  simp only [Bool.and_eq_true] at h
  obtain ⟨ht, h⟩ := h
  obtain ⟨l, j, p', rfl⟩ := isTup_of ht
  split at h
  · rename_i gg y p hx
    have hx := asCall_of hx
    subst hx
    simp only [Bool.and_eq_true] at h
    obtain ⟨q, rfl, hg, hm⟩ := freeName_of f r h.1.1
    exact ai_enum f.K hg hm (ga X E k y f r h.2) h.1.2
  · cases h
structure LcF (T : Tb) (X : Cx) (E : XK) (elt t it : Expr) (ifs : List Expr) (scope : Scope) (tg : Tg) (vs : List (Str × Nat)) (dI : DI) (dT : DT) (dE : DE) : Prop where
  ok : BlkOk X.N X.env.scope scope vs
  src : PI X t it (cI T E dI)
  tgt : ∀ (s : Shared) (H : Hp) (C : Addr) (cl : List (Str × Addr)) (fp : List Addr), PG (X.blk s H scope (compEnvC scope cl C X.env) fp) t (cG T tg)
  ifs : ∀ (s : Shared) (H : Hp) (C : Addr) (cl : List (Str × Addr)) (fp : List Addr), PTs (X.blk s H scope (compEnvC scope cl C X.env) fp) ifs (cT T E0w dT)
  elt : ∀ (s : Shared) (H : Hp) (C : Addr) (cl : List (Str × Addr)) (fp : List Addr), PE (X.blk s H scope (compEnvC scope cl C X.env) fp) elt (cE T E0w dE)
  set : noSet it = true
  sl : ∀ i ∈ tg.slots, i ∈ vs.map (·.2)
theorem g_lcF {X : Cx} {E : XK} {k : Ck} (f : Fx Γ nm T n X E) (r : Cor k X) {tg : Tg} {el t it : Expr} {ifs : List Expr} {scope : Scope} {vs : List (Str × Nat)} {ci : Ck → Expr → Expr → Bool} {di : DI} {ce : Ck → Expr → Bool} {de : DE} {cc : Option (Ck → Expr → Bool)} {dt : DT}
    (gi : GoodI Γ nm T n ci di) (gc : (cc = none ∧ dt = dYes) ∨ ∃ c, cc = some c ∧ GoodT Γ nm T n c dt) (ge : GoodE Γ nm T n ce de)
    (h : lcB k tg vs ci cc ce el t it ifs scope = true) : LcF T X E el t it ifs scope tg vs di dt de := by
  unfold lcB at h
  simp only [Bool.and_eq_true] at h
  obtain ⟨⟨⟨⟨⟨⟨h1, h2⟩, h3⟩, h4⟩, h5⟩, h6⟩, h7⟩ := h
  have ok : BlkOk X.N X.env.scope scope vs := by rw [r.N, r.sc]; exact blkOk_by h1
  have fb := fun s H C cl fp => f.blk (scope := scope) ok.kind s H C cl fp
  have rb := fun s H C cl fp => r.blk (scope := scope) s H C cl fp
  refine ⟨ok, gi X E k t it f r h3, fun s H C cl fp => g_tg (fb s H C cl fp) (rb s H C cl fp) h2, fun s H C cl fp => ?_, fun s H C cl fp => ge _ _ _ el (fb s H C cl fp) (rb s H C cl fp) h6, h4, fun i hi => ?_⟩
  · unfold ifsB at h5
    rcases gc with ⟨rfl, rfl⟩ | ⟨c, rfl, gc⟩
    · cases ifs with
      | nil => exact at_nil
      | cons _ _ => cases h5
    · cases ifs with
      | nil => cases h5
      | cons x xs => cases xs with
        | nil => exact at_one (gc _ _ _ x (fb s H C cl fp) (rb s H C cl fp) h5)
        | cons _ _ => cases h5
  · exact List.contains_iff_mem.mp (List.all_eq_true.mp h7 i hi)
theorem g_lc {own : Bool} {tg : Tg} {vs : List (Str × Nat)} {ci : Ck → Expr → Expr → Bool} {di : DI} {ce : Ck → Expr → Bool} {de : DE} {co : Ck → Option Expr → Bool} {cc : Option (Ck → Expr → Bool)} {dd : DO × DT}
    (gi : GoodI Γ nm T n ci di) (gc : GoodQ Γ nm T n co cc dd) (ge : GoodE Γ nm T n ce de) :
    GoodE Γ nm T n (fun k e => match asLC e with
    | some (el, t, it, ifs, scope, _) => lcB k tg vs ci cc ce el t it ifs scope
    | none => false) (dLc own di tg dd.2 de (vs.map (·.2))) := fun X E k e f r h => by
  simp only at h
  split at h
  · rename_i el t it ifs scope p hx
    have hx := asLC_of hx
    subst hx
    have L := g_lcF f r gi gc.q ge h
    exact ae_lc f.calm f.nd L.src L.ok L.tgt L.ifs L.elt L.set L.sl
  · cases h
theorem chks_nil_eq : chks nm .nil = fun _ l => match l with | [] => true | _ => false := by
  funext k l; cases l <;> rfl
theorem chkts_nil_eq : chkts nm .nil = fun _ l => match l with | [] => true | _ => false := by
  funext k l; cases l <;> rfl
theorem chks_cons_eq {e : Ex} {es : Es} : chks nm (.cons e es) = fun k l => match l with | x :: xs => noStar x && (chk nm e).e k x && chks nm es k xs | [] => false := by
  funext k l; cases l <;> rfl
theorem chkts_cons_eq {e : Ex} {es : Es} : chkts nm (.cons e es) = fun k l => match l with | x :: xs => (chk nm e).t k x && chkts nm es k xs | [] => false := by
  funext k l; cases l <;> rfl
theorem chks_nil : GoodS Γ nm T n (chks nm .nil) (chkts nm .nil) (dXs Γ .nil) := by rw [chks_nil_eq, chkts_nil_eq]; exact g_nil
theorem chks_nilP : GoodP Γ nm T n (chks nm .nil) (dXs Γ .nil).a := by rw [chks_nil_eq]; exact gp_nil
theorem chks_cons {e : Ex} {es : Es} (g : Good Γ nm T n (chk nm e) (dX Γ e)) (gs : GoodS Γ nm T n (chks nm es) (chkts nm es) (dXs Γ es)) : GoodS Γ nm T n (chks nm (.cons e es)) (chkts nm (.cons e es)) (dXs Γ (.cons e es)) := by rw [chks_cons_eq, chkts_cons_eq]; exact g_cons g gs
theorem chks_consP {e : Ex} {es : Es} (g : Good Γ nm T n (chk nm e) (dX Γ e)) (gs : GoodP Γ nm T n (chks nm es) (dXs Γ es).a) : GoodP Γ nm T n (chks nm (.cons e es)) (dXs Γ (.cons e es)).a := by rw [chks_cons_eq]; exact gp_cons g gs
theorem chko_none : GoodQ Γ nm T n (chko nm .none) (chkq nm .none) (dXo Γ .none) := by
  rw [show chko nm .none = fun _ l => match l with | none => true | _ => false from by funext k l; cases l <;> rfl]; exact go_none
theorem chko_some {e : Ex} (g : Good Γ nm T n (chk nm e) (dX Γ e)) : GoodQ Γ nm T n (chko nm (.some e)) (chkq nm (.some e)) (dXo Γ (.some e)) := by
  rw [show chko nm (.some e) = fun k l => match l with | some x => (chk nm e).e k x | _ => false from by funext k l; cases l <;> rfl]; exact go_some g
mutual
theorem good (Γ : Gam) (nm : Nm) (T : Tb) (n : Nat) : (e : Ex) → Good Γ nm T n (chk nm e) (dX Γ e)
  | .lit w => .pl (g_lit w)
  | .var i => .pl (g_var i)
  | .glob g => .pl (g_glob g)
  | .tup es => .pl (g_tup (goods Γ nm T n es).1)
  | .lst _ es => .pl (g_lst (goods Γ nm T n es).1)
  | .bin _ _ a b => .pl (g_bin (good Γ nm T n a).e (good Γ nm T n b).e)
  | .neg a => .pl (g_neg (good Γ nm T n a).e)
  | .cmp _ a b => g_cmp (good Γ nm T n a).e (good Γ nm T n b).e
  | .chain _ _ a b c => g_chain (good Γ nm T n a).e (good Γ nm T n b).e (good Γ nm T n c).e
  | .not a => g_not (good Γ nm T n a)
  | .bool _ es => g_bool (goods Γ nm T n es).1
  | .ite t a b => g_ite (good Γ nm T n t).t (good Γ nm T n a).e (good Γ nm T n b).e
  | .idx a b => .pl (g_idx (good Γ nm T n a).e (good Γ nm T n b).e)
  | .slice _ a lo hi => .pl (g_slice (good Γ nm T n a).e (goodo Γ nm T n lo) (goodo Γ nm T n hi))
  | .call _ es => .pl (g_call (goods Γ nm T n es).1)
  | .new _ _ es => .pl (g_new (goods Γ nm T n es).1)
  | .meth _ o es => .pl (g_meth (good Γ nm T n o).e (goods Γ nm T n es).1)
  | .attr o _ => .pl (g_attr (good Γ nm T n o).e)
  | .blt _ _ es => .pl (g_blt (goods Γ nm T n es).1)
  | .bm _ _ o es => .pl (g_bm (good Γ nm T n o).e (goods Γ nm T n es).1)
  | .isi _ a => .pl (g_isi (good Γ nm T n a).e)
  | .isi2 _ _ a => .pl (g_isi2 (good Γ nm T n a).e)
  | .lc _ elt _ src cond _ => .pl (g_lc (goodi Γ nm T n src) (goodo Γ nm T n cond) (good Γ nm T n elt).e)
  | .dget d b => .pl (g_dget (good Γ nm T n d).e (good Γ nm T n b).e)
  | .din _ a d => g_din (good Γ nm T n a).e (good Γ nm T n d).e
  | .dnew => .pl g_dnew
  | .kidx _ a => .pl (g_kidx (good Γ nm T n a).e)
  | .kin _ _ a => g_kin (good Γ nm T n a).e
  | .kget _ a => .pl (g_kget (good Γ nm T n a).e)
  | .disp _ _ es => .pl (g_disp (ct := chkts nm es) (goods Γ nm T n es).2)
  | .frz a => .pl (g_frz (good Γ nm T n a).e)
theorem goods (Γ : Gam) (nm : Nm) (T : Tb) (n : Nat) : (es : Es) → GoodS Γ nm T n (chks nm es) (chkts nm es) (dXs Γ es) ∧ GoodP Γ nm T n (chks nm es) (dXs Γ es).a
  | .nil => ⟨chks_nil, chks_nilP⟩
  | .cons e es => ⟨chks_cons (good Γ nm T n e) (goods Γ nm T n es).1, chks_consP (good Γ nm T n e) (goods Γ nm T n es).2⟩
theorem goodo (Γ : Gam) (nm : Nm) (T : Tb) (n : Nat) : (o : Eo) → GoodQ Γ nm T n (chko nm o) (chkq nm o) (dXo Γ o)
  | .none => chko_none
  | .some e => chko_some (good Γ nm T n e)
theorem goodi (Γ : Gam) (nm : Nm) (T : Tb) (n : Nat) : (s : Sr) → GoodI Γ nm T n (chki nm s) (dXi Γ s)
  | .seq e => fun X E k t x f r h => ai_seq f.K ((good Γ nm T n e).e X E k x f r h)
  | .rg1 e => gi_rg1 (good Γ nm T n e).e
  | .rg2 a b => gi_rg2 (good Γ nm T n a).e (good Γ nm T n b).e
  | .zip a b => gi_zip (good Γ nm T n a).e (good Γ nm T n b).e
  | .enum e => gi_enum (good Γ nm T n e).e
end
end WL
namespace WL
open PySem PySem.Spec PyProof.Rows L2
variable {Γ : Gam} {nm : Nm} {T : Tb} {n : Nat}
def asAssign : Stmt → Option (Expr × Expr × Pos)
  | .Assign [t] v p => some (t, v, p)
  | _ => none
theorem asAssign_of {s : Stmt} {t v : Expr} {p : Pos} (h : asAssign s = some (t, v, p)) : s = .Assign [t] v p := by
  unfold asAssign at h
  split at h
  · cases h; rfl
  · cases h
def asExprS : Stmt → Option Expr
  | .Expr v _ => some v
  | _ => none
theorem asExprS_of {s : Stmt} {v : Expr} (h : asExprS s = some v) : ∃ p, s = .Expr v p := by
  cases s <;> first | (cases h; exact ⟨_, rfl⟩) | cases h
def asRet : Stmt → Option Expr
  | .Return (some v) _ => some v
  | _ => none
theorem asRet_of {s : Stmt} {v : Expr} (h : asRet s = some v) : ∃ p, s = .Return (some v) p := by
  unfold asRet at h
  split at h
  · cases h; exact ⟨_, rfl⟩
  · cases h
def asIfS : Stmt → Option (Expr × List Stmt × List Stmt)
  | .If t a b _ => some (t, a, b)
  | _ => none
theorem asIfS_of {s : Stmt} {t : Expr} {a b : List Stmt} (h : asIfS s = some (t, a, b)) : ∃ p, s = .If t a b p := by
  cases s <;> first | (cases h; exact ⟨_, rfl⟩) | cases h
def asFor : Stmt → Option (Expr × Expr × List Stmt)
  | .For t i b [] _ => some (t, i, b)
  | _ => none
theorem asFor_of {s : Stmt} {t i : Expr} {b : List Stmt} (h : asFor s = some (t, i, b)) : ∃ p, s = .For t i b [] p := by
  unfold asFor at h
  split at h
  · cases h; exact ⟨_, rfl⟩
  · cases h
def asWhile : Stmt → Option (Expr × List Stmt)
  | .While t b [] _ => some (t, b)
  | _ => none
theorem asWhile_of {s : Stmt} {t : Expr} {b : List Stmt} (h : asWhile s = some (t, b)) : ∃ p, s = .While t b [] p := by
  unfold asWhile at h
  split at h
  · cases h; exact ⟨_, rfl⟩
  · cases h
def notPar : Expr → Expr → Bool
  | .Tuple .., .Tuple .. => false
  | .List .., .Tuple .. => false
  | _, _ => true
theorem notPar_of {t e : Expr} {env : Env} (h : notPar t e = true) : swappedStores [t] e env = pure none := by
  cases t <;> first
    | (cases e <;> first | rfl | cases h)
    | rfl
def swapB (k : Ck) (t e : Expr) : Bool := match asName t, asLC e with
  | some y, some (_, _, _, _, scope, p) => decide (k.sc.names.lookup y = some .local) && (t.pos.line == p.line) && !(scope.names.any fun (n, q) => n == y && (q == .local || q == .cell))
  | _, _ => false
def isCell (k : Ck) (t : Expr) : Bool := match asName t with
  | some y => decide (k.sc.names.lookup y = some .cell)
  | none => true
def isLC : Expr → Bool
  | .ListComp .. => true
  | _ => false
def chkAsg (nm : Nm) (k : Ck) (tg : Tg) (e : Ex) (t v : Expr) : Bool :=
  if isLC v then (match e, asLC v with
    | .lc _ elt g src cond vs, some (el, lt, it, ifs, scope, _) =>
      if swapB k t v then (match tg, asName t with | .name i, some y => decide (k.N[i]? = some y) | _, _ => false) && lcB k g vs (chki nm src) (chkq nm cond) (chk nm elt).e el lt it ifs scope
      else noStar t && isCell k t && chkTg k tg t && lcB k g vs (chki nm src) (chkq nm cond) (chk nm elt).e el lt it ifs scope
    | _, _ => false)
  else noComp v && noStar t && notPar t v && chkTg k tg t && (chk nm e).e k v
mutual
def chkS (nm : Nm) : Sc → Ck → Stmt → Bool
  | .asg tg e, k, s => (match asAssign s with | some (t, v, _) => chkAsg nm k tg e t v | none => false)
  | .expr e, k, s => (match asExprS s with | some v => noComp v && (chk nm e).e k v | none => false)
  | .ret e, k, s => (match asRet s with | some v => (chk nm e).e k v | none => false)
  | .ite t a b, k, s => (match asIfS s with | some (x, l, r) => (chk nm t).t k x && chkSs nm a k l && chkSs nm b k r | none => false)
  | .for_ tg src body, k, s => (match asFor s with | some (t, i, b) => chki nm src k t i && chkTg k tg t && noSet i && chkSs nm body k b | none => false)
  | .while_ t body, k, s => (match asWhile s with | some (x, b) => (chk nm t).t k x && chkSs nm body k b | none => false)
  | .fld o f e, k, s => (match asAssign s with
    | some (t, v, _) => (match asAttr t with | some (ov, x, _) => decide (x = f) && nm.flds.contains f && (chk nm o).e k ov && (chk nm e).e k v | none => false)
    | none => false)
  | .set o i e, k, s => (match asAssign s with
    | some (t, v, _) => (match asSub t with | some (ov, iv) => plainIx iv && (chk nm o).e k ov && (chk nm i).e k iv && (chk nm e).e k v | none => false)
    | none => false)
  | .dput o i e, k, s => (match asAssign s with
    | some (t, v, _) => (match asSub t with | some (ov, iv) => plainIx iv && (chk nm o).e k ov && (chk nm i).e k iv && (chk nm e).e k v | none => false)
    | none => false)
  | .never, _, _ => true
def chkSs (nm : Nm) : Ss → Ck → List Stmt → Bool
  | .nil, _, l => l.isEmpty
  | .cons s ss, k, l => (match l with | x :: xs => chkS nm s k x && chkSs nm ss k xs | [] => false)
end
structure FxS (Γ : Gam) (nm : Nm) (T : Tb) (n : Nat) (X : Cx) (E : XK) : Prop where
  e : Fx Γ nm T n X E
  own : PassesOwn (model X.prog X.w) X.A X.env X.xe
def GoodSt (Γ : Gam) (nm : Nm) (T : Tb) (n : Nat) (c : Ck → Stmt → Bool) (d : DS) : Prop := ∀ X E k s, FxS Γ nm T n X E → Cor k X → c k s = true → PS X s (cS T E d)
def GoodSs (Γ : Gam) (nm : Nm) (T : Tb) (n : Nat) (c : Ck → List Stmt → Bool) (d : DS) : Prop := ∀ X E k s, FxS Γ nm T n X E → Cor k X → c k s = true → PSs X s (cS T E d)
theorem isLC_no {v : Expr} (h : isLC v = true) : ∃ x, asLC v = none ∨ asLC v = some x := by
  cases e : asLC v with
  | none => exact ⟨(v, v, v, [], ⟨.function, [], false, false, []⟩, ⟨0, 0, 0, 0⟩), .inl rfl⟩
  | some x => exact ⟨x, .inr rfl⟩
theorem sw_no {X : Cx} {k : Ck} (r : Cor k X) {t e : Expr} {el lt it : Expr} {ifs : List Expr} {scope : Scope} {p : Pos} {l : Nat} (he : e = .ListComp el [⟨lt, it, ifs, 0⟩] scope p) (h : isCell k t = true) : swapsWith e (some t) l X.env = pure false := by
  subst he
  cases t with
  | Name y q =>
    have h1 : k.sc.names.lookup y = some .cell := of_decide_eq_true h
    have h2 : X.env.kindOf y = some .cell := by show X.env.scope.names.lookup y = _; rw [r.sc]; exact h1
    unfold swapsWith
    simp only [h2]
    have : (some NameKind.cell == some NameKind.local) = false := by decide
    simp only [this, Bool.and_false, Bool.false_and]
  | _ => rfl
theorem good_asg (tg : Tg) (e : Ex) : GoodSt Γ nm T n (chkS nm (.asg tg e)) (dAsg (dX Γ e).e tg) := fun X E k s f r h => by
  replace h : (match asAssign s with | some (t, v, _) => chkAsg nm k tg e t v | none => false) = true := h
  split at h
  · rename_i t v p hs
    have hs := asAssign_of hs
    subst hs
    unfold chkAsg at h
    by_cases hl : isLC v = true
    · rw [if_pos hl] at h
      split at h
      · rename_i own elt g src cond vs el lt it ifs scope lp hv
        have hv' := hv
        have hv := asLC_of hv
        subst hv
        by_cases hw : swapB k t (.ListComp el [⟨lt, it, ifs, 0⟩] scope lp) = true
        · rw [if_pos hw] at h
          rw [Bool.and_eq_true] at h
          obtain ⟨h1, h2⟩ := h
          have L := g_lcF f.e r (goodi Γ nm T n src) (goodo Γ nm T n cond).q (good Γ nm T n elt).e h2
          split at h1
          · rename_i i y hy
            obtain ⟨py, rfl⟩ := asName_of hy
            have h1 := of_decide_eq_true h1
            have hw : (decide (k.sc.names.lookup y = some .local) && (py.line == lp.line) && !(scope.names.any fun (n, q) => n == y && (q == .local || q == .cell))) = true := hw
            simp only [Bool.and_eq_true, decide_eq_true_eq, Bool.not_eq_true'] at hw
            obtain ⟨⟨w1, w2⟩, w3⟩ := hw
            have hyl : X.env.scope.names.lookup y = some .local := by rw [r.sc]; exact w1
            exact as_lc f.e.calm f.e.nd (by rw [r.N]; exact h1) hyl (sw_true f.e.kind hyl (by simpa using w2) w3) L.src L.ok L.tgt L.ifs L.elt L.set L.sl
          · cases h1
        · rw [if_neg hw] at h
          simp only [Bool.and_eq_true] at h
          obtain ⟨⟨⟨h1, h2⟩, h3⟩, h4⟩ := h
          have L := g_lcF f.e r (goodi Γ nm T n src) (goodo Γ nm T n cond).q (good Γ nm T n elt).e h4
          exact as_asg h1 (ae_lc f.e.calm f.e.nd L.src L.ok L.tgt L.ifs L.elt L.set L.sl) (g_tg f.e r h3) (sw_no r rfl h2) (notPar_of (by cases t <;> rfl))
      · cases h
    · rw [if_neg hl] at h
      simp only [Bool.and_eq_true] at h
      obtain ⟨⟨⟨⟨h1, h2⟩, h3⟩, h4⟩, h5⟩ := h
      exact as_asg h2 ((good Γ nm T n e).e X E k v f.e r h5) (g_tg f.e r h4) (swaps_of h1) (notPar_of h3)
  · cases h
theorem swaps_at {e o : Expr} {f : Str} {p : Pos} {l : Nat} {env : Env} : swapsWith e (some (.Attribute o f p)) l env = pure false := by
  cases e <;> rfl
theorem swaps_sub {e o i : Expr} {p : Pos} {l : Nat} {env : Env} : swapsWith e (some (.Subscript o i p)) l env = pure false := by
  cases e <;> rfl
theorem asSub_of' {e a b : Expr} (h : asSub e = some (a, b)) : ∃ p, e = .Subscript a b p := asSub_of h
mutual
theorem goodS (Γ : Gam) (nm : Nm) (T : Tb) (n : Nat) : (s : Sc) → GoodSt Γ nm T n (chkS nm s) (dSc Γ s)
  | .asg tg e => good_asg tg e
  | .expr e => fun X E k s f r h => by
    replace h : (match asExprS s with | some v => noComp v && (chk nm e).e k v | none => false) = true := h
    split at h
    · rename_i v hs
      obtain ⟨p, rfl⟩ := asExprS_of hs
      rw [Bool.and_eq_true] at h
      exact as_expr ((good Γ nm T n e).e X E k v f.e r h.2) h.1
    · cases h
  | .ret e => fun X E k s f r h => by
    replace h : (match asRet s with | some v => (chk nm e).e k v | none => false) = true := h
    split at h
    · rename_i v hs
      obtain ⟨p, rfl⟩ := asRet_of hs
      exact as_ret ((good Γ nm T n e).e X E k v f.e r h)
    · cases h
  | .ite t a b => fun X E k s f r h => by
    replace h : (match asIfS s with | some (x, l, r) => (chk nm t).t k x && chkSs nm a k l && chkSs nm b k r | none => false) = true := h
    split at h
    · rename_i x l rr hs
      obtain ⟨p, rfl⟩ := asIfS_of hs
      simp only [Bool.and_eq_true] at h
      exact as_if ((good Γ nm T n t).t X E k x f.e r h.1.1) (goodSs Γ nm T n a X E k l f r h.1.2) (goodSs Γ nm T n b X E k rr f r h.2)
    · cases h
  | .for_ tg src body => fun X E k s f r h => by
    replace h : (match asFor s with | some (t, i, b) => chki nm src k t i && chkTg k tg t && noSet i && chkSs nm body k b | none => false) = true := h
    split at h
    · rename_i t i b hs
      obtain ⟨p, rfl⟩ := asFor_of hs
      simp only [Bool.and_eq_true] at h
      exact as_for f.own f.e.calm (goodi Γ nm T n src X E k t i f.e r h.1.1.1) (g_tg f.e r h.1.1.2) (goodSs Γ nm T n body X E k b f r h.2) h.1.2
    · cases h
  | .while_ t body => fun X E k s f r h => by
    replace h : (match asWhile s with | some (x, b) => (chk nm t).t k x && chkSs nm body k b | none => false) = true := h
    split at h
    · rename_i x b hs
      obtain ⟨p, rfl⟩ := asWhile_of hs
      simp only [Bool.and_eq_true] at h
      exact as_while f.own ((good Γ nm T n t).t X E k x f.e r h.1) (goodSs Γ nm T n body X E k b f r h.2)
    · cases h
  | .fld o fl e => fun X E k s f r h => by
    replace h : (match asAssign s with
      | some (t, v, _) => (match asAttr t with | some (ov, x, _) => decide (x = fl) && nm.flds.contains fl && (chk nm o).e k ov && (chk nm e).e k v | none => false)
      | none => false) = true := h
    split at h
    · rename_i t v p hs
      have hs := asAssign_of hs
      subst hs
      split at h
      · rename_i ov x ap ht
        have ht := asAttr_of ht
        subst ht
        simp only [Bool.and_eq_true, decide_eq_true_eq] at h
        obtain ⟨⟨⟨rfl, h1⟩, h2⟩, h3⟩ := h
        exact as_fld f.e.K f.e.flds (List.contains_iff_mem.mp h1) ((good Γ nm T n o).e X E k ov f.e r h2) ((good Γ nm T n e).e X E k v f.e r h3) swaps_at
      · cases h
    · cases h
  | .set o i e => fun X E k s f r h => by
    replace h : (match asAssign s with
      | some (t, v, _) => (match asSub t with | some (ov, iv) => plainIx iv && (chk nm o).e k ov && (chk nm i).e k iv && (chk nm e).e k v | none => false)
      | none => false) = true := h
    split at h
    · rename_i t v p hs
      have hs := asAssign_of hs
      subst hs
      split at h
      · rename_i ov iv ht
        obtain ⟨q, rfl⟩ := asSub_of ht
        simp only [Bool.and_eq_true] at h
        obtain ⟨⟨⟨h1, h2⟩, h3⟩, h4⟩ := h
        have O := (good Γ nm T n o).e X E k ov f.e r h2
        have I := (good Γ nm T n i).e X E k iv f.e r h3
        exact as_set O I ((good Γ nm T n e).e X E k v f.e r h4) swaps_sub (pg_sub O I set_list (by intro _; cases iv <;> first | rfl | cases h1))
      · cases h
    · cases h
  | .dput o i e => fun X E k s f r h => by
    replace h : (match asAssign s with
      | some (t, v, _) => (match asSub t with | some (ov, iv) => plainIx iv && (chk nm o).e k ov && (chk nm i).e k iv && (chk nm e).e k v | none => false)
      | none => false) = true := h
    split at h
    · rename_i t v p hs
      have hs := asAssign_of hs
      subst hs
      split at h
      · rename_i ov iv ht
        obtain ⟨q, rfl⟩ := asSub_of ht
        simp only [Bool.and_eq_true] at h
        obtain ⟨⟨⟨h1, h2⟩, h3⟩, h4⟩ := h
        exact as_dput (by have := units_of f.e; omega) ((good Γ nm T n o).e X E k ov f.e r h2) ((good Γ nm T n i).e X E k iv f.e r h3) ((good Γ nm T n e).e X E k v f.e r h4) swaps_sub
      · cases h
    · cases h
  | .never => fun X E k s f r h => as_never
theorem goodSs (Γ : Gam) (nm : Nm) (T : Tb) (n : Nat) : (s : Ss) → GoodSs Γ nm T n (chkSs nm s) (dSs Γ s)
  | .nil => fun X E k l f r h => by
    cases l with
    | nil => exact ass_nil
    | cons _ _ => cases h
  | .cons s ss => fun X E k l f r h => by
    cases l with
    | nil => cases h
    | cons x xs =>
      replace h : (chkS nm s k x && chkSs nm ss k xs) = true := h
      rw [Bool.and_eq_true] at h
      exact ass_cons (goodS Γ nm T n s X E k x f r h.1) (goodSs Γ nm T n ss X E k xs f r h.2)
end
end WL
namespace WL
open PySem PySem.Spec PyProof.Rows L2

structure Fd where
  N : List Str
  np : Nat
  code : Ss
  args : Arguments
  body : List Stmt
  scope : Scope
def Fd.ps (d : Fd) : List Str := d.N.take d.np
def Fd.ok (nm : Nm) (d : Fd) : Bool := C8.scC d.N d.ps d.scope && decide (d.np ≤ d.N.length) && chkSs nm d.code ⟨d.N, d.scope, fun _ => true⟩ d.body
def Fd.bnd (d : Fd) : Prop := ∀ (x qual : Str) (kV doc pm : Value) (an : Option Addr) (cdv ct : Value) (us : List Value), us.length = d.np → bindArgs (PySem.W.fnOf x qual d.args d.body d.scope .none kV doc pm an cdv ct) ⟨us, []⟩ = pure (d.ps.zip us)
structure Fd.Good (nm : Nm) (d : Fd) : Prop where
  ok : d.ok nm = true
  bnd : d.bnd
def startW (N : List Str) (ws : List W) : Sw := ws.map some ++ List.replicate (N.length - ws.length) none
def noP : Wp := fun _ _ _ _ => False
def dn (p : Nat → Wp) : Nat → Wp
  | 0 => noP
  | k + 1 => p k
def dn2 (p : Nat → Wp) : Nat → Wp
  | 0 => noP
  | 1 => noP
  | k + 2 => p k
structure Spx where
  gl : Nat → W
  kd : Nat → List (Str × W)
  fn : Nat → Nat → Wp
  ini : Nat → Nat → Wp
  me : Nat → Nat → Option (Nat → Wp)
def Spx.gam (S : Spx) (nm : Nm) (k : Nat) : Gam := ⟨S.gl, S.kd, fun f => dn (S.fn f) k, fun c => dn2 (S.ini c) k, fun c m => (S.me c m).map fun p => dn p k, nm.me⟩
structure Txt where
  fn : Nat → Fd
  ini : Nat → Fd
  me : Nat → Nat → Fd
def KeepC (Γ : Gam) (N : List Str) (np : Nat) (code : Ss) (p : Wp) : Prop := ∀ ws M Q Ex, p ws M Q Ex → ws.length = np ∧ dSs Γ code { nx := fun _ M' => Q .non M', rt := Q, ex := Ex } (startW N ws) M
abbrev Keeps (Γ : Gam) (d : Fd) (p : Wp) : Prop := KeepC Γ d.N d.np d.code p
structure AllKeep (S : Spx) (nm : Nm) (X : Txt) : Prop where
  fn : ∀ f x, nm.fn f = some x → ∀ k, Keeps (S.gam nm k) (X.fn f) (S.fn f k)
  ini : ∀ c x, nm.cl c = some x → ∀ k, Keeps (S.gam nm k) (X.ini c) (S.ini c k)
  me : ∀ c m p, S.me c m = some p → ∀ k, Keeps (S.gam nm k) (X.me c m) (p k)
structure AllGood (S : Spx) (nm : Nm) (X : Txt) : Prop where
  fn : ∀ f x, nm.fn f = some x → (X.fn f).Good nm
  ini : ∀ c x, nm.cl c = some x → (X.ini c).Good nm
  me : ∀ c m p, S.me c m = some p → (X.me c m).Good nm
structure Says (S : Spx) (nm : Nm) (X : Txt) (T : Tb) (w : World) (mg : Str → Option Value) : Prop where
  fn : ∀ f x, nm.fn f = some x → ∃ a fd qual, mg x = some (.ref a) ∧ FunD T.K x qual (X.fn f).args (X.fn f).body (X.fn f).scope [] [] a fd
  ini : ∀ c x, nm.cl c = some x → mg x = some (.ref (T.cls c)) ∧ ∃ a fd qual, Mk T.K (T.cls c) a ∧ FunD T.K "__init__" qual (X.ini c).args (X.ini c).body (X.ini c).scope [] [] a fd
  me : ∀ c m p, S.me c m = some p → ∃ a fd qual, Meth T.K (T.cls c) (nm.me m) a ∧ FunD T.K (nm.me m) qual (X.me c m).args (X.me c m).body (X.me c m).scope [] [] a fd
  gl : ∀ g x, nm.gl g = some x → ∃ u v, mg x = some u ∧ RelV v u ∧ ∀ F H, RW T F H (S.gl g) v
  kd : ∀ g x, nm.kd g = some x → ∃ d es n, mg x = some (.ref d) ∧ KDict T.K w d es n ∧
    ∀ z, ∃ r, PySem.W.nsIn T.K d z = some r ∧ (∀ y, tlook (S.kd g) z = some y → ∃ u v, r = some u ∧ RelV v u ∧ ∀ F H, RW T F H y v) ∧ (tlook (S.kd g) z = none → r = none)
  cls : ∀ c, Cls T.K (T.cls c)
  noat : ∀ c, ∀ f ∈ nm.flds, NoAttr T.K (T.cls c) f
  free : ∀ x, nm.free.contains x = true → mg x = none

section
variable {S : Spx} {nm : Nm} {Z : Txt} {T : Tb} {P : Program} {w : World} {mg : Str → Option Value} {base : Heap}
theorem rs_start {F : Addr → Prop} {H : Hp} {N : List Str} {ws : List W} {vs : List V} (r : RWs T F H ws vs) : RS T F H (startW N ws) (L2.start N vs) := by
  have hl := r.length
  refine ⟨?_, fun i w h => ?_⟩
  · unfold startW L2.start
    rw [List.length_append, List.length_append, List.length_map, List.length_map, List.length_replicate, List.length_replicate]
    omega
  · unfold startW at h
    unfold L2.start
    by_cases hi : i < ws.length
    · rw [List.getElem?_append_left (by simpa using hi), List.getElem?_map] at h
      rw [List.getElem?_append_left (by simp; omega), List.getElem?_map]
      cases e : ws[i]? with
      | none => rw [e] at h; cases h
      | some y =>
        rw [e] at h
        cases h
        obtain ⟨v, h1, h2⟩ := r.get e
        exact ⟨v, by rw [h1]; rfl, h2⟩
    · rw [List.getElem?_append_right (by simpa using Nat.le_of_not_lt hi)] at h
      have := List.mem_of_getElem? h
      rw [List.mem_replicate] at this
      cases this.2
theorem start_len {N : List Str} {ws : List W} {vs : List V} (h : ws.length = vs.length) : (startW N ws).length ≤ (L2.start N vs).length := by
  unfold startW L2.start
  rw [List.length_append, List.length_append, List.length_map, List.length_map, List.length_replicate, List.length_replicate]
  omega
theorem fn_no {k : Nat} {a : Addr} {fd : FuncData} {ps : List Str} : FnOk P w T.K mg base (L2.CX P w) k a fd ps (cP T noP) :=
  ⟨fun _ _ _ _ ⟨_, _, _, _, _, _, _, h, _⟩ => h.elim, fun _ _ _ _ _ _ _ _ _ _ _ _ _ ⟨_, _, _, _, _, _, _, h, _⟩ => h.elim⟩
structure Below (S : Spx) (nm : Nm) (Z : Txt) (T : Tb) (P : Program) (w : World) (mg : Str → Option Value) (base : Heap) (k : Nat) : Prop where
  fn : ∀ f x, nm.fn f = some x → ∀ a fd qual, FunD T.K x qual (Z.fn f).args (Z.fn f).body (Z.fn f).scope [] [] a fd → FnOk P w T.K mg base (L2.CX P w) (k + 1) a fd (Z.fn f).ps (cP T (dn (S.fn f) k))
  ini : ∀ c x, nm.cl c = some x → ∀ a fd qual, FunD T.K "__init__" qual (Z.ini c).args (Z.ini c).body (Z.ini c).scope [] [] a fd → FnOk P w T.K mg base (L2.CX P w) k a fd (Z.ini c).ps (cP T (dn2 (S.ini c) k))
  me : ∀ c m p, S.me c m = some p → ∀ a fd qual, FunD T.K (nm.me m) qual (Z.me c m).args (Z.me c m).body (Z.me c m).scope [] [] a fd → FnOk P w T.K mg base (L2.CX P w) (k + 1) a fd (Z.me c m).ps (cP T (dn p k))
theorem bnd_of {x qual : Str} {d : Fd} {a : Addr} {fd : FuncData} (g : d.Good nm) (F : FunD T.K x qual d.args d.body d.scope [] [] a fd) : Binds T.K fd d.ps [] := by
  have ok := g.ok
  unfold Fd.ok at ok
  simp only [Bool.and_eq_true, decide_eq_true_eq] at ok
  have hl : d.ps.length = d.np := by unfold Fd.ps; rw [List.length_take]; omega
  exact F.bindsN fun kV doc pm an cdv ct us h => g.bnd x qual kV doc pm an cdv ct us (by rw [h, hl])
theorem fn_lvl {k : Nat} (sy : Says S nm Z T w mg) (gd : AllGood S nm Z) (B : Below S nm Z T P w mg base k) {x qual : Str} {d : Fd} {p : Wp} {a : Addr} {fd : FuncData} (g : d.Good nm) (kp : Keeps (S.gam nm k) d p) (F : FunD T.K x qual d.args d.body d.scope [] [] a fd) :
    FnOk P w T.K mg base (L2.CX P w) (k + 2) a fd d.ps (cP T p) := by
  have ok := g.ok
  unfold Fd.ok at ok
  simp only [Bool.and_eq_true, decide_eq_true_eq] at ok
  obtain ⟨⟨ok1, ok2⟩, ok3⟩ := ok
  have hl : d.ps.length = d.np := by unfold Fd.ps; rw [List.length_take]; omega
  have sc := C8.fnScope_by ok1
  refine F.ok sc (fun vs H Q E h => ?_) (fun cdv A outer s H vs Q E hr h => ⟨cS T E (dSs (S.gam nm k) d.code), ?_, ?_⟩)
  · obtain ⟨F, ws, M, Qw, Ew, r, _, h, _⟩ := h
    rw [← r.length, (kp _ _ _ _ h).1, hl]
  · refine goodSs (S.gam nm k) nm T k d.code _ _ ⟨d.N, d.scope, fun _ => true⟩ d.body ⟨⟨rfl, rfl, sc.nd, hr, sc.kind, ?_, ?_, ?_, fun _ => rfl, ?_, ?_, ⟨sy.cls, sy.noat⟩, sy.free, ?_⟩, passes_of rfl⟩ ⟨rfl, rfl, fun _ _ => rfl⟩ ok3
    · intro f x hx
      obtain ⟨a, fd, q, h1, h2⟩ := sy.fn f x hx
      exact ⟨a, fd, _, h1, h2.kp, bnd_of (gd.fn f x hx) h2, B.fn f x hx a fd q h2⟩
    · intro c x hx
      obtain ⟨h0, a, fd, q, h1, h2⟩ := sy.ini c x hx
      exact ⟨h0, a, fd, _, h1, bnd_of (gd.ini c x hx) h2, B.ini c x hx a fd q h2⟩
    · intro m c p hp
      have hp : (S.me c m).map (fun p => dn p k) = some p := hp
      cases e : S.me c m with
      | none => rw [e] at hp; cases hp
      | some p0 =>
        rw [e] at hp
        cases hp
        obtain ⟨a, fd, q, h1, h2⟩ := sy.me c m p0 e
        exact ⟨a, fd, _, h1, bnd_of (gd.me c m p0 e) h2, B.me c m p0 e a fd q h2⟩
    · intro g x hx
      exact sy.gl g x hx
    · intro g x hx
      exact sy.kd g x hx
    · exact L2.passes_call (takes_of rfl rfl rfl rfl) fun _ _ _ _ h => h
  · obtain ⟨F, ws, M, Qw, Ew, r, Sm, h, kq, kx⟩ := h
    refine ⟨F, startW d.N ws, M, { nx := fun _ M' => Qw .non M', rt := Qw, ex := Ew }, rs_start r, start_len r.length, Sm, (kp _ _ _ _ h).2, fun _ M' _ H' F' e _ _ S' q => kq _ _ _ _ _ e (RW.non_.mpr rfl) S' q, kq, fun _ _ _ _ _ _ _ _ _ q => q.elim, fun _ _ _ _ _ _ _ _ _ q => q.elim, kx⟩
theorem below (sy : Says S nm Z T w mg) (gd : AllGood S nm Z) (kp : AllKeep S nm Z) : ∀ k, Below S nm Z T P w mg base k ∧ Below S nm Z T P w mg base (k + 1)
  | 0 => by
    have b0 : Below S nm Z T P w mg base 0 := ⟨fun _ _ _ _ _ _ _ => fn_no, fun _ _ _ _ _ _ _ => fn_no, fun _ _ _ _ _ _ _ _ => fn_no⟩
    exact ⟨b0, fun f x h a fd q F => fn_lvl sy gd b0 (gd.fn f x h) (kp.fn f x h 0) F, fun _ _ _ _ _ _ _ => fn_no, fun c m p h a fd q F => fn_lvl sy gd b0 (gd.me c m p h) (kp.me c m p h 0) F⟩
  | k + 1 => by
    obtain ⟨b0, b1⟩ := below sy gd kp k
    exact ⟨b1, fun f x h a fd q F => fn_lvl sy gd b1 (gd.fn f x h) (kp.fn f x h (k + 1)) F, fun c x h a fd q F => fn_lvl sy gd b0 (gd.ini c x h) (kp.ini c x h k) F, fun c m p h a fd q F => fn_lvl sy gd b1 (gd.me c m p h) (kp.me c m p h (k + 1)) F⟩
theorem fn_all (sy : Says S nm Z T w mg) (gd : AllGood S nm Z) (kp : AllKeep S nm Z) {f : Nat} {x qual : Str} (hx : nm.fn f = some x) {a : Addr} {fd : FuncData} (F : FunD T.K x qual (Z.fn f).args (Z.fn f).body (Z.fn f).scope [] [] a fd) (k : Nat) :
    FnOk P w T.K mg base (L2.CX P w) (k + 2) a fd (Z.fn f).ps (cP T (S.fn f k)) := (below sy gd kp k).2.fn f x hx a fd qual F
end
end WL
namespace WL
open PySem L2
variable {M : Mh} {Q : QW}
def PlW (n : Nat) (w : W) : Prop := ∃ d, dat w = some d ∧ d.canLay0 = true ∧ d.depth ≤ n
def PlWs (n : Nat) (ws : List W) : Prop := ∀ w ∈ ws, PlW n w
theorem PlW.mono {n m : Nat} {w : W} (h : PlW n w) (hm : n ≤ m) : PlW m w := by
  obtain ⟨d, h1, h2, h3⟩ := h
  exact ⟨d, h1, h2, Nat.le_trans h3 hm⟩
theorem pl_non {n : Nat} : PlW n .non := ⟨_, rfl, by simp [PyData.canLay0], by simp [PyData.depth]⟩
theorem pl_bl {n : Nat} {b : Bool} : PlW n (.bl b) := ⟨_, rfl, by simp [PyData.canLay0], by simp [PyData.depth]⟩
theorem pl_int {n : Nat} {b : Int} : PlW n (.int b) := ⟨_, rfl, by simp [PyData.canLay0], by simp [PyData.depth]⟩
theorem pl_str {n : Nat} {b : Str} (h : PyData.strOk b = true) : PlW n (.str b) := ⟨_, rfl, by simpa [PyData.canLay0] using h, by simp [PyData.depth]⟩
theorem pl_ws {n : Nat} : ∀ {ws : List W}, PlWs n ws → ∃ ds, dats ws = some ds ∧ PyData.canLayAll0 ds = true ∧ PyData.depthAll ds ≤ n
  | [], _ => ⟨[], rfl, by simp [PyData.canLayAll0], by simp [PyData.depthAll]⟩
  | w :: ws, h => by
    obtain ⟨d, h1, h2, h3⟩ := h w (by simp)
    obtain ⟨ds, h4, h5, h6⟩ := pl_ws fun x hx => h x (List.mem_cons_of_mem _ hx)
    refine ⟨d :: ds, by simp [dats, h1, h4], by simp [PyData.canLayAll0, h2, h5], ?_⟩
    simp only [PyData.depthAll]
    omega
theorem pl_tup {n : Nat} {ws : List W} (h : PlWs n ws) : PlW (n + 1) (.tup ws) := by
  obtain ⟨ds, h1, h2, h3⟩ := pl_ws h
  exact ⟨.tuple ds, by simp [dat, h1], by simpa [PyData.canLay0] using h2, by simpa [PyData.depth] using h3⟩
theorem pl_lst {n : Nat} {ws : List W} (h : PlWs n ws) : PlW (n + 1) (.lst ws) := by
  obtain ⟨ds, h1, h2, h3⟩ := pl_ws h
  exact ⟨.list ds, by simp [dat, h1], by simpa [PyData.canLay0] using h2, by simpa [PyData.depth] using h3⟩
theorem pl_scr {n : Nat} {ws : List W} (h : PlWs n ws) : PlW (n + 1) (.scr ws) := by
  obtain ⟨ds, h1, h2, h3⟩ := pl_ws h
  exact ⟨.list ds, by simp [dat, h1], by simpa [PyData.canLay0] using h2, by simpa [PyData.depth] using h3⟩
theorem pls_nil {n : Nat} : PlWs n [] := fun _ h => by simp at h
theorem pls_cons {n : Nat} {w : W} {ws : List W} (h : PlW n w) (hs : PlWs n ws) : PlWs n (w :: ws) := fun x hx => by
  rcases List.mem_cons.mp hx with rfl | hx
  · exact h
  · exact hs x hx
def eqB (x y : W) : Bool := match dat x, dat y with
  | some d, some e => PyData.eqv d e
  | _, _ => false
theorem PlW.shaped {w : W} {d : PyData} (h : PlW 64 w) (e : dat w = some d) : SeqAt.shaped d = true := by
  obtain ⟨d', h1, h2, h3⟩ := h
  rw [e] at h1
  cases h1
  unfold SeqAt.shaped
  rw [h2, decide_eq_true h3]
  rfl
theorem eqW_fall {x y : W} {b : Bool} (hx : PlW 64 x) (hy : PlW 64 y) (mx : datM M x = dat x) (my : datM M y = dat y) : (∃ d e, datM M x = some d ∧ datM M y = some e ∧ SeqAt.shaped d = true ∧ SeqAt.shaped e = true ∧ b = PyData.eqv d e) ↔ b = eqB x y := by
  have hx' := hx
  have hy' := hy
  obtain ⟨d, h1, h2, h3⟩ := hx
  obtain ⟨e, h4, h5, h6⟩ := hy
  constructor
  · rintro ⟨d', e', q1, q2, _, _, q3⟩
    rw [mx, h1] at q1
    rw [my, h4] at q2
    cases q1
    cases q2
    unfold eqB
    rw [h1, h4]
    exact q3
  · intro q
    refine ⟨d, e, by rw [mx, h1], by rw [my, h4], hx'.shaped h1, hy'.shaped h4, ?_⟩
    rw [q]
    unfold eqB
    rw [h1, h4]
theorem eqv_of {x y : W} {b : Bool} (h : ∀ c, eqW M x y c ↔ c = b) : eqV_ x y M Q = Q (.bl b) M := by
  unfold eqV_
  simp [h]
theorem nev_of {x y : W} {b : Bool} (h : ∀ c, eqW M x y c ↔ c = b) : neV_ x y M Q = Q (.bl (!b)) M := by
  unfold neV_
  simp [h]
theorem eq_int {i j : Int} : eqV_ (.int i) (.int j) M Q = Q (.bl (decide (i = j))) M := eqv_of fun c => Iff.rfl
theorem eq_str {i j : Str} : eqV_ (.str i) (.str j) M Q = Q (.bl (decide (i = j))) M := eqv_of fun c => Iff.rfl
theorem eq_bl {i j : Bool} : eqV_ (.bl i) (.bl j) M Q = Q (.bl (decide (i = j))) M := eqv_of fun c => Iff.rfl
theorem ne_int {i j : Int} : neV_ (.int i) (.int j) M Q = Q (.bl (!decide (i = j))) M := nev_of fun c => Iff.rfl
theorem ne_str {i j : Str} : neV_ (.str i) (.str j) M Q = Q (.bl (!decide (i = j))) M := nev_of fun c => Iff.rfl
theorem ne_bl {i j : Bool} : neV_ (.bl i) (.bl j) M Q = Q (.bl (!decide (i = j))) M := nev_of fun c => Iff.rfl
theorem eq_tup {a b : List W} (h : PlW 64 (.tup a)) (h' : PlW 64 (.tup b)) : eqV_ (.tup a) (.tup b) M Q = Q (.bl (eqB (.tup a) (.tup b))) M := eqv_of fun c => eqW_fall h h' rfl rfl
theorem ne_tup {a b : List W} (h : PlW 64 (.tup a)) (h' : PlW 64 (.tup b)) : neV_ (.tup a) (.tup b) M Q = Q (.bl (!eqB (.tup a) (.tup b))) M := nev_of fun c => eqW_fall h h' rfl rfl
theorem eq_lst {a b : List W} (h : PlW 64 (.lst a)) (h' : PlW 64 (.lst b)) : eqV_ (.lst a) (.lst b) M Q = Q (.bl (eqB (.lst a) (.lst b))) M := eqv_of fun c => eqW_fall h h' rfl rfl
theorem ne_lst {a b : List W} (h : PlW 64 (.lst a)) (h' : PlW 64 (.lst b)) : neV_ (.lst a) (.lst b) M Q = Q (.bl (!eqB (.lst a) (.lst b))) M := nev_of fun c => eqW_fall h h' rfl rfl
theorem dats_cons {w : W} {ws : List W} {ds : List PyData} (h : dats (w :: ws) = some ds) : ∃ d es, ds = d :: es := by
  simp only [dats] at h
  split at h
  · cases h; exact ⟨_, _, rfl⟩
  · cases h
theorem eqB_nilT {a : List W} : eqB (.tup a) (.tup []) = decide (a = [] ∧ True) := by
  cases a with
  | nil => rfl
  | cons w ws =>
    unfold eqB
    simp only [dat]
    cases e : dats (w :: ws) with
    | none => simp
    | some ds =>
      obtain ⟨d, es, rfl⟩ := dats_cons e
      simp [dats, PyData.eqv, PyData.eqvAll]
theorem eqB_nilL {a : List W} : eqB (.lst a) (.lst []) = decide (a = [] ∧ True) := by
  cases a with
  | nil => rfl
  | cons w ws =>
    unfold eqB
    simp only [dat]
    cases e : dats (w :: ws) with
    | none => simp
    | some ds =>
      obtain ⟨d, es, rfl⟩ := dats_cons e
      simp [dats, PyData.eqv, PyData.eqvAll]
theorem eqB_refl {n : Nat} {x : W} (h : PlW n x) : eqB x x = true := by
  obtain ⟨d, h1, h2, _⟩ := h
  unfold eqB
  rw [h1]
  exact SeqAt.eqv_refl d h2
theorem pl_nilT {n : Nat} : PlW (n + 1) (.tup []) := pl_tup pls_nil
theorem pl_nilL {n : Nat} : PlW (n + 1) (.lst []) := pl_lst pls_nil
theorem eq_tup0 {a : List W} (h : PlW 64 (.tup a)) : eqV_ (.tup a) (.tup []) M Q = Q (.bl (decide (a = []))) M := by rw [eq_tup h pl_nilT, eqB_nilT]; simp
theorem ne_tup0 {a : List W} (h : PlW 64 (.tup a)) : neV_ (.tup a) (.tup []) M Q = Q (.bl (!decide (a = []))) M := by rw [ne_tup h pl_nilT, eqB_nilT]; simp
theorem eq_lst0 {a : List W} (h : PlW 64 (.lst a)) : eqV_ (.lst a) (.lst []) M Q = Q (.bl (decide (a = []))) M := by rw [eq_lst h pl_nilL, eqB_nilL]; simp
theorem ne_lst0 {a : List W} (h : PlW 64 (.lst a)) : neV_ (.lst a) (.lst []) M Q = Q (.bl (!decide (a = []))) M := by rw [ne_lst h pl_nilL, eqB_nilL]; simp
theorem eq_nilL : eqV_ (.lst []) (.lst []) M Q = Q (.bl true) M := by rw [eq_lst0 pl_nilL]; rfl
theorem eqW_ref {a : Addr} {ws us : List W} {b : Bool} (hM : M a = some (.lst ws)) (h : PlW 64 (.lst ws)) (h' : PlW 64 (.lst us)) : eqW M (.ref a) (.lst us) b ↔ b = eqB (.lst ws) (.lst us) := by
  have : datM M (.ref a) = datM M (.lst ws) := by simp [datM, hM, dat]
  rw [← eqW_fall h h' (M := M) rfl rfl, ← this]
  exact Iff.rfl
theorem ne_ref0 {a : Addr} {ws : List W} (hM : M a = some (.lst ws)) (h : PlW 64 (.lst ws)) : neV_ (.ref a) (.lst []) M Q = Q (.bl (!decide (ws = []))) M := by
  rw [nev_of fun c => eqW_ref hM h pl_nilL, eqB_nilL]; simp
theorem eq_ref0 {a : Addr} {ws : List W} (hM : M a = some (.lst ws)) (h : PlW 64 (.lst ws)) : eqV_ (.ref a) (.lst []) M Q = Q (.bl (decide (ws = []))) M := by
  rw [eqv_of fun c => eqW_ref hM h pl_nilL, eqB_nilL]; simp
theorem ty_non : tyW M .non = some .non := rfl
theorem ty_bl {b : Bool} : tyW M (.bl b) = some .bl := rfl
theorem ty_int {b : Int} : tyW M (.int b) = some .int := rfl
theorem ty_str {b : Str} : tyW M (.str b) = some .str := rfl
theorem ty_tup {b : List W} : tyW M (.tup b) = some .tup := rfl
theorem ty_lst {b : List W} : tyW M (.lst b) = some .lst := rfl
theorem ty_scr {b : List W} : tyW M (.scr b) = none := rfl
theorem ty_dk {ks : List Key} {b : List W} : tyW M (.dk ks b) = some .dct := rfl
theorem tr_bl {c b : Bool} : truW M (.bl c) b = (b = c) := rfl
theorem tr_non {b : Bool} : truW M .non b = (b = false) := rfl
theorem tr_int {i : Int} {b : Bool} : truW M (.int i) b = (b = (i != 0)) := rfl
theorem tr_str {y : Str} {b : Bool} : truW M (.str y) b = (y.length ≤ sizeLine ∧ b = ((y.length : Int) != 0)) := rfl
theorem at0 {w : W} {ws : List W} : atI (w :: ws) 0 = some w := by simp [atI, ixN]
theorem at1 {w v : W} {ws : List W} : atI (w :: v :: ws) 1 = some v := by
  have : ((1 : Int)) < (ws.length : Int) + 1 + 1 := by omega
  simp [atI, ixN, this]
theorem at2 {w v u : W} {ws : List W} : atI (w :: v :: u :: ws) 2 = some u := by
  have : ((2 : Int)) < (ws.length : Int) + 1 + 1 + 1 := by omega
  simp [atI, ixN, this]
theorem atN {ws : List W} {i : Nat} {w : W} (h : ws[i]? = some w) : atI ws (i : Int) = some w := by
  have hi : i < ws.length := (List.getElem?_eq_some_iff.mp h).1
  have e : ws[i] = w := by rw [List.getElem?_eq_getElem hi] at h; exact Option.some.inj h
  simp [atI, ixN, hi, e]
theorem cut1 {w : W} {ws : List W} : cutW (w :: ws) (some 1) none = ws := by
  unfold cutW HT.sIx
  simp
theorem len0 : (0 : Nat) ≤ sizeLine := Nat.zero_le _
theorem szl {n : Nat} (h : n ≤ 1000000) : n ≤ sizeLine := Nat.le_trans h (by decide)
theorem ints_eq {f : Int → Int → QW → Mh → Prop} {i j : Int} : intsW f (.int i) (.int j) M Q = f i j Q M := rfl
theorem add_int {o : Bool} {i j : Int} : addW o (.int i) (.int j) M Q = Q (.int (i + j)) M := rfl
theorem add_str {o : Bool} {i j : Str} : addW o (.str i) (.str j) M Q = (i.length + j.length ≤ sizeLine ∧ Q (.str (i ++ j)) M) := rfl
theorem add_tup {o : Bool} {i j : List W} : addW o (.tup i) (.tup j) M Q = (i.length + j.length ≤ sizeLine ∧ Q (.tup (i ++ j)) M) := rfl
theorem add_lst {o : Bool} {i j : List W} : addW o (.lst i) (.lst j) M Q = (i.length + j.length ≤ sizeLine ∧ newL o (i ++ j) M Q) := by
  unfold addW
  simp [lv_lst]
theorem mul_int {o : Bool} {i j : Int} : mulW o (.int i) (.int j) M Q = (CMul i j ∧ Q (.int (i * j)) M) := rfl
theorem mul_lst {o : Bool} {a : List W} {k : Int} : mulW o (.lst a) (.int k) M Q = (-(2 ^ 63) ≤ k ∧ k < 2 ^ 63 ∧ a.length * k.toNat ≤ sizeLine ∧ newL o (List.replicate k.toNat a).flatten M Q) := by
  show (∃ b, lv M (.lst a) = some b ∧ _) = _
  simp [lv_lst]
theorem idx_tup {ws : List W} {i : Int} : idxW (.tup ws) (.int i) M Q = ∃ w, atI ws i = some w ∧ Q w M := by
  show (∃ us w, sv M (.tup ws) = some us ∧ _) = _
  simp [sv_tup]
theorem idx_lst {ws : List W} {i : Int} : idxW (.lst ws) (.int i) M Q = ∃ w, atI ws i = some w ∧ Q w M := by
  show (∃ us w, sv M (.lst ws) = some us ∧ _) = _
  simp [sv_lst]
theorem idx_scr {ws : List W} {i : Int} : idxW (.scr ws) (.int i) M Q = ∃ w, atI ws i = some w ∧ Q w M := by
  show (∃ us w, sv M (.scr ws) = some us ∧ _) = _
  simp [sv_scr]
theorem idx_ref {a : Addr} {ws : List W} {i : Int} (h : M a = some (.lst ws)) : idxW (.ref a) (.int i) M Q = ∃ w, atI ws i = some w ∧ Q w M := by
  show (∃ us w, sv M (.ref a) = some us ∧ _) = _
  simp [sv_ref h]
theorem idx_str {z : Str} {i : Int} : idxW (.str z) (.int i) M Q = ∃ c, z.length ≤ sizeLine ∧ atI z.cps.toList i = some c ∧ Q (.str ⟨#[c]⟩) M := rfl
theorem len_tup {ws : List W} : lenW (.tup ws) M Q = Q (.int ws.length) M := by
  show (∃ us, sv M (.tup ws) = some us ∧ _) = _
  simp [sv_tup]
theorem len_lst {ws : List W} : lenW (.lst ws) M Q = Q (.int ws.length) M := by
  show (∃ us, sv M (.lst ws) = some us ∧ _) = _
  simp [sv_lst]
theorem len_scr {ws : List W} : lenW (.scr ws) M Q = Q (.int ws.length) M := by
  show (∃ us, sv M (.scr ws) = some us ∧ _) = _
  simp [sv_scr]
theorem len_ref {a : Addr} {ws : List W} (h : M a = some (.lst ws)) : lenW (.ref a) M Q = Q (.int ws.length) M := by
  show (∃ us, sv M (.ref a) = some us ∧ _) = _
  simp [sv_ref h]
theorem len_str {z : Str} : lenW (.str z) M Q = (z.length ≤ sizeLine ∧ Q (.int z.length) M) := rfl
theorem sl_tup {o : Bool} {ws : List W} {l h : Option Int} : sliceW o (.tup ws) l h M Q = Q (.tup (cutW ws l h)) M := rfl
theorem sl_lst {o : Bool} {ws : List W} {l h : Option Int} : sliceW o (.lst ws) l h M Q = newL o (cutW ws l h) M Q := rfl
theorem neg_int {i : Int} : negW (.int i) M Q = Q (.int (-i)) M := rfl
theorem str_int {i : Int} : strW (.int i) M Q = (i.natAbs.log2 < 1920 ∧ Q (.str (toString i)) M) := rfl
theorem str_str {i : Str} : strW (.str i) M Q = Q (.str i) M := rfl
theorem int_int {i : Int} : intW (.int i) M Q = Q (.int i) M := rfl
theorem int_bl {b : Bool} : intW (.bl b) M Q = Q (.int (if b then 1 else 0)) M := rfl
theorem is_non {n : Bool} : isW n .non .non M Q = Q (.bl !n) M := by cases n <;> rfl
theorem is_int {n : Bool} {i : Int} : isW n (.int i) .non M Q = Q (.bl n) M := by cases n <;> rfl
theorem is_str {n : Bool} {i : Str} : isW n (.str i) .non M Q = Q (.bl n) M := by cases n <;> rfl
theorem is_tup {n : Bool} {i : List W} : isW n (.tup i) .non M Q = Q (.bl n) M := by cases n <;> rfl
theorem is_lst {n : Bool} {i : List W} : isW n (.lst i) .non M Q = Q (.bl n) M := by cases n <;> rfl
theorem is_bl {n : Bool} {i : Bool} : isW n (.bl i) .non M Q = Q (.bl n) M := by cases n <;> rfl
theorem is_bb {n a b : Bool} : isW n (.bl a) (.bl b) M Q = Q (.bl (if n then !decide (a = b) else decide (a = b))) M := rfl
theorem frz_ref {a : Addr} {o : MO} (h : M a = some o) : frzW (.ref a) M Q = Q (frzO o) (mdel M a) := by
  show (∃ o', M a = some o' ∧ _) = _
  simp [h]
theorem ss_nil {Γ : Gam} {D : Dw} {σ : Sw} {M : Mh} : dSs Γ .nil D σ M = D.nx σ M := rfl
theorem for_nil {G : Mh → Prop} {g : Tg} {b : DS} {D : Dw} {σ : Sw} {M : Mh} : forW G g b [] D σ M = D.nx σ M := rfl
theorem for_cons {G : Mh → Prop} {g : Tg} {b : DS} {x : W} {xs : List W} {D : Dw} {σ : Sw} {M : Mh} : forW G g b (x :: xs) D σ M = ∃ σ', g.asg x σ = some σ' ∧
    b { nx := fun σ2 M2 => G M2 ∧ forW G g b xs D σ2 M2, rt := D.rt, bk := D.nx, ct := fun σ2 M2 => G M2 ∧ forW G g b xs D σ2 M2, ex := D.ex } σ' M := rfl
theorem pairs_cons {a b : W} {as bs : List W} : pairs (a :: as) (b :: bs) = .tup [a, b] :: pairs as bs := rfl
theorem pairs_nil {as : List W} : pairs as [] = [] := by cases as <;> rfl
theorem pairs_nil' {as : List W} : pairs [] as = [] := rfl
theorem walk_lst {ws us : List W} {G : Mh → Prop} : walkW M (.lst ws) us G = (us = ws ∧ G = fun _ => True) := rfl
theorem walk_scr {ws us : List W} {G : Mh → Prop} : walkW M (.scr ws) us G = (us = ws ∧ G = fun _ => True) := rfl
theorem walk_tup {ws us : List W} {G : Mh → Prop} : walkW M (.tup ws) us G = (us = ws ∧ G = fun _ => True) := rfl
theorem walk_str {z : Str} {us : List W} {G : Mh → Prop} : walkW M (.str z) us G = (us = signs z ∧ G = fun _ => True) := rfl
theorem walk_ref {a : Addr} {us : List W} {G : Mh → Prop} : walkW M (.ref a) us G = (M a = some (.lst us) ∧ G = fun M => M a = some (.lst us)) := rfl
theorem lc_pure {own : Bool} {G : Mh → Prop} {g : Tg} {tt : DT} {te : DE} {D : Addr} {σ : Sw} {M : Mh} {Q : QW} (c : W → Bool) (f : W → W) (hM : M D = none) (hG : ∀ acc, G (mup M D (.lst acc))) :
    ∀ (xs acc : List W), (∀ x ∈ xs, ∀ us, ∃ σ', g.asg x σ = some σ' ∧ ∀ R : Bool → Mh → Prop, R (c x) (mup M D (.lst us)) → tt σ' (mup M D (.lst us)) R noX) →
    (∀ x ∈ xs, ∀ us σ', g.asg x σ = some σ' → c x = true → ∀ R : QW, R (f x) (mup M D (.lst us)) → te σ' (mup M D (.lst us)) R noX) →
    finL own D (acc ++ (xs.filter c).map f) (mup M D (.lst (acc ++ (xs.filter c).map f))) Q → lcW own G g tt te D σ xs acc (mup M D (.lst acc)) Q
  | [], acc, _, _, q => by
    rw [List.filter_nil, List.map_nil, List.append_nil] at q
    exact q
  | x :: xs, acc, h1, h2, q => by
    have self : ∀ us, (mup M D (.lst us)) D = some (.lst us) := fun us => by simp [mup]
    have mm : ∀ us vs, mup (mup M D (.lst us)) D (.lst vs) = mup M D (.lst vs) := fun us vs => by funext b; unfold mup; split <;> rfl
    obtain ⟨σ', e, k⟩ := h1 x (by simp) acc
    refine ⟨σ', e, k _ ⟨self _, hG _, ?_⟩⟩
    cases hc : c x with
    | false =>
      rw [if_neg (by simp)]
      refine lc_pure c f hM hG xs acc (fun y hy => h1 y (List.mem_cons_of_mem _ hy)) (fun y hy => h2 y (List.mem_cons_of_mem _ hy)) ?_
      simpa [List.filter_cons, hc] using q
    | true =>
      rw [if_pos rfl]
      refine h2 x (by simp) acc σ' e hc _ ⟨self _, by rw [mm]; exact hG _, ?_⟩
      rw [mm]
      refine lc_pure c f hM hG xs (acc ++ [f x]) (fun y hy => h1 y (List.mem_cons_of_mem _ hy)) (fun y hy => h2 y (List.mem_cons_of_mem _ hy)) ?_
      simpa [List.filter_cons, hc] using q
theorem lc_pairs {own : Bool} {G : Mh → Prop} {g : Tg} {tt : DT} {te : DE} {D : Addr} {σ : Sw} {M : Mh} {Q : QW} (hM : M D = none) (hG : ∀ acc, G (mup M D (.lst acc))) :
    ∀ (ps : List (W × Option W)) (acc : List W), (∀ p ∈ ps, ∀ us, ∃ σ', g.asg p.1 σ = some σ' ∧ (∀ R : Bool → Mh → Prop, R p.2.isSome (mup M D (.lst us)) → tt σ' (mup M D (.lst us)) R noX) ∧
      ∀ y, p.2 = some y → ∀ R : QW, R y (mup M D (.lst us)) → te σ' (mup M D (.lst us)) R noX) →
    finL own D (acc ++ ps.filterMap (·.2)) (mup M D (.lst (acc ++ ps.filterMap (·.2)))) Q → lcW own G g tt te D σ (ps.map (·.1)) acc (mup M D (.lst acc)) Q
  | [], acc, _, q => by
    rw [List.filterMap_nil, List.append_nil] at q
    exact q
  | p :: ps, acc, h, q => by
    have self : ∀ us, (mup M D (.lst us)) D = some (.lst us) := fun us => by simp [mup]
    have mm : ∀ us vs, mup (mup M D (.lst us)) D (.lst vs) = mup M D (.lst vs) := fun us vs => by funext b; unfold mup; split <;> rfl
    obtain ⟨σ', e, k1, k2⟩ := h p (by simp) acc
    refine ⟨σ', e, k1 _ ⟨self _, hG _, ?_⟩⟩
    cases hc : p.2 with
    | none =>
      rw [if_neg (by simp)]
      refine lc_pairs hM hG ps acc (fun y hy => h y (List.mem_cons_of_mem _ hy)) ?_
      rw [List.filterMap_cons, hc] at q
      exact q
    | some y =>
      rw [if_pos (by simp)]
      refine k2 y hc _ ⟨self _, by rw [mm]; exact hG _, ?_⟩
      rw [mm]
      refine lc_pairs hM hG ps (acc ++ [y]) (fun y hy => h y (List.mem_cons_of_mem _ hy)) ?_
      rw [List.filterMap_cons, hc] at q
      simpa using q
theorem lc_of {G : Mh → Prop} {g : Tg} {tt : DT} {te : DE} {σ : Sw} {M : Mh} {Q : QW} {xs : List W} (ps : List (W × Option W)) (hx : xs = ps.map (·.1)) (hG : ∀ D acc, M D = none → G (mup M D (.lst acc)))
    (h : ∀ D, M D = none → ∀ p ∈ ps, ∀ us, ∃ σ', g.asg p.1 σ = some σ' ∧ (∀ R : Bool → Mh → Prop, R p.2.isSome (mup M D (.lst us)) → tt σ' (mup M D (.lst us)) R noX) ∧
      ∀ y, p.2 = some y → ∀ R : QW, R y (mup M D (.lst us)) → te σ' (mup M D (.lst us)) R noX) (q : Q (.lst (ps.filterMap (·.2))) M) :
    ∀ D, M D = none → lcW false G g tt te D σ xs [] (mup M D (.lst [])) Q := fun D hD => by
  subst hx
  refine lc_pairs hD (fun acc => hG D acc hD) ps [] (h D hD) ?_
  rw [List.nil_append]
  exact ⟨by simp [mup], by rw [mdel_mup hD]; exact q⟩
theorem fin_pure {D : Addr} {ws : List W} {M : Mh} {Q : QW} (hM : M D = none) (q : Q (.lst ws) M) : finL false D ws (mup M D (.lst ws)) Q := ⟨by simp [mup], by rw [mdel_mup hM]; exact q⟩
theorem for_inv {G : Mh → Prop} {g : Tg} {b : DS} {D : Dw} (I : Nat → Sw → Mh → Prop) (hG : ∀ i σ M, I i σ M → G M) : ∀ (xs : List W) (j : Nat) {σ : Sw} {M : Mh}, I j σ M →
    (∀ i x σ M (K : QS), xs[i]? = some x → I (j + i) σ M → (∀ σ2 M2, I (j + i + 1) σ2 M2 → K σ2 M2) → ∃ σ', g.asg x σ = some σ' ∧ b { nx := K, rt := D.rt, bk := D.nx, ct := K, ex := D.ex } σ' M) →
    (∀ σ M, I (j + xs.length) σ M → D.nx σ M) → forW G g b xs D σ M
  | [], j, σ, M, h0, _, he => he σ M h0
  | x :: xs, j, σ, M, h0, hs, he => by
    have ih : ∀ σ2 M2, I (j + 0 + 1) σ2 M2 → G M2 ∧ forW G g b xs D σ2 M2 := fun σ2 M2 h => by
      refine ⟨hG _ _ _ h, for_inv I hG xs (j + 1) h (fun i y σ M K e h k => ?_) (fun σ M h => he σ M ?_)⟩
      · have e1 : j + 1 + i = j + (i + 1) := by omega
        have e2 : j + 1 + i + 1 = j + (i + 1) + 1 := by omega
        rw [e1] at h
        rw [e2] at k
        exact hs (i + 1) y σ M K (by simpa using e) h k
      · have e1 : j + 1 + xs.length = j + (x :: xs).length := by rw [List.length_cons]; omega
        rw [e1] at h
        exact h
    exact hs 0 x σ M _ rfl h0 ih
theorem rangeL_len {n : Nat} : (rangeL 0 n).length = n := by simp [rangeL]
theorem rangeL_get {n i : Nat} {x : W} (h : (rangeL 0 n)[i]? = some x) : x = .int i ∧ i < n := by
  unfold rangeL at h
  rw [List.getElem?_map] at h
  by_cases hi : i < n
  · rw [List.getElem?_range (by simpa using hi)] at h
    simp at h
    exact ⟨h.symm, hi⟩
  · rw [List.getElem?_eq_none (by simpa using Nat.le_of_not_lt hi)] at h
    cases h
theorem for_range {b : DS} {D : Dw} {s n : Nat} {σ : Sw} {M : Mh} (I : Nat → Sw → Mh → Prop) (h0 : I 0 σ M)
    (hs : ∀ i σ M (K : QS), i < n → I i σ M → (∀ σ2 M2, I (i + 1) σ2 M2 → K σ2 M2) → b { nx := K, rt := D.rt, bk := D.nx, ct := K, ex := D.ex } (σ.set s (some (.int i))) M)
    (he : ∀ σ M, I n σ M → D.nx σ M) : forW (fun _ => True) (.name s) b (rangeL 0 n) D σ M := by
  refine for_inv I (fun _ _ _ _ => trivial) _ 0 h0 (fun i x σ M K e h k => ?_) (fun σ M h => he σ M ?_)
  · obtain ⟨rfl, hi⟩ := rangeL_get e
    rw [Nat.zero_add] at h k
    exact ⟨_, rfl, hs i σ M K hi h k⟩
  · rw [Nat.zero_add, rangeL_len] at h
    exact h
end WL
namespace WL
open PySem L2
def ARMS : List (Str × W) := [("num", .str "n"), ("argument", .str ""), ("way", .str "f"), ("plus", .str "xx"), ("less", .str "xx"), ("times", .str "xx"), ("if", .str "xxx"), ("then", .str "xx"), ("say", .str "x"), ("call", .str "fx"), ("through", .str "xx")]
theorem tl_num : tlook ARMS "num" = some (.str "n") := rfl
theorem tl_argument : tlook ARMS "argument" = some (.str "") := rfl
theorem tl_way : tlook ARMS "way" = some (.str "f") := rfl
theorem tl_plus : tlook ARMS "plus" = some (.str "xx") := rfl
theorem tl_less : tlook ARMS "less" = some (.str "xx") := rfl
theorem tl_times : tlook ARMS "times" = some (.str "xx") := rfl
theorem tl_if : tlook ARMS "if" = some (.str "xxx") := rfl
theorem tl_then : tlook ARMS "then" = some (.str "xx") := rfl
theorem tl_say : tlook ARMS "say" = some (.str "x") := rfl
theorem tl_call : tlook ARMS "call" = some (.str "fx") := rfl
theorem tl_through : tlook ARMS "through" = some (.str "xx") := rfl
theorem sg_n : signs "n" = [.str "n"] := rfl
theorem sg_0 : signs "" = [] := rfl
theorem sg_f : signs "f" = [.str "f"] := rfl
theorem sg_xx : signs "xx" = [.str "x", .str "x"] := rfl
theorem sg_xxx : signs "xxx" = [.str "x", .str "x", .str "x"] := rfl
theorem sg_x : signs "x" = [.str "x"] := rfl
theorem sg_fx : signs "fx" = [.str "f", .str "x"] := rfl
theorem nx : (("n" : Str) = "x") = False := eq_false (by decide)
theorem fx : (("f" : Str) = "x") = False := eq_false (by decide)
theorem fn_ : (("f" : Str) = "n") = False := eq_false (by decide)
theorem ln_n : Str.length "n" = 1 := rfl
theorem ln_0 : Str.length "" = 0 := rfl
theorem ln_f : Str.length "f" = 1 := rfl
theorem ln_xx : Str.length "xx" = 2 := rfl
theorem ln_xxx : Str.length "xxx" = 3 := rfl
theorem ln_x : Str.length "x" = 1 := rfl
theorem ln_fx : Str.length "fx" = 2 := rfl
inductive Bd where
  | num (n : Nat) | arg | way (f : Nat) | plus (a b : Bd) | less (a b : Bd) | times (a b : Bd) | iff (a b c : Bd) | thn (a b : Bd) | say (a : Bd) | call (f : Nat) (a : Bd) | thr (a b : Bd)
def Bd.enc : Bd → W
  | .num n => .tup [.str "num", .int n]
  | .arg => .tup [.str "argument"]
  | .way f => .tup [.str "way", .int f]
  | .plus a b => .tup [.str "plus", a.enc, b.enc]
  | .less a b => .tup [.str "less", a.enc, b.enc]
  | .times a b => .tup [.str "times", a.enc, b.enc]
  | .iff a b c => .tup [.str "if", a.enc, b.enc, c.enc]
  | .thn a b => .tup [.str "then", a.enc, b.enc]
  | .say a => .tup [.str "say", a.enc]
  | .call f a => .tup [.str "call", .int f, a.enc]
  | .thr a b => .tup [.str "through", a.enc, b.enc]
def Bd.ok (m : Nat) : Bd → Prop
  | .num n => n ≤ 99
  | .arg => True
  | .way f => f < m
  | .plus a b => a.ok m ∧ b.ok m
  | .less a b => a.ok m ∧ b.ok m
  | .times a b => a.ok m ∧ b.ok m
  | .iff a b c => a.ok m ∧ b.ok m ∧ c.ok m
  | .thn a b => a.ok m ∧ b.ok m
  | .say a => a.ok m
  | .call f a => f < m ∧ a.ok m
  | .thr a b => a.ok m ∧ b.ok m
def Bd.ht : Bd → Nat
  | .plus a b => max a.ht b.ht + 1
  | .less a b => max a.ht b.ht + 1
  | .times a b => max a.ht b.ht + 1
  | .iff a b c => max a.ht (max b.ht c.ht) + 1
  | .thn a b => max a.ht b.ht + 1
  | .say a => a.ht + 1
  | .call _ a => a.ht + 1
  | .thr a b => max a.ht b.ht + 1
  | _ => 0
def Bd.cnt : Bd → Nat
  | .plus a b => 1 + a.cnt + b.cnt
  | .less a b => 1 + a.cnt + b.cnt
  | .times a b => 1 + a.cnt + b.cnt
  | .iff a b c => 1 + a.cnt + b.cnt + c.cnt
  | .thn a b => 1 + a.cnt + b.cnt
  | .say a => 1 + a.cnt
  | .call _ a => 1 + a.cnt
  | .thr a b => 1 + a.cnt + b.cnt
  | _ => 1
def Bd.ws : Bd → List W
  | .num n => [.str "num", .int n]
  | .arg => [.str "argument"]
  | .way f => [.str "way", .int f]
  | .plus a b => [.str "plus", a.enc, b.enc]
  | .less a b => [.str "less", a.enc, b.enc]
  | .times a b => [.str "times", a.enc, b.enc]
  | .iff a b c => [.str "if", a.enc, b.enc, c.enc]
  | .thn a b => [.str "then", a.enc, b.enc]
  | .say a => [.str "say", a.enc]
  | .call f a => [.str "call", .int f, a.enc]
  | .thr a b => [.str "through", a.enc, b.enc]
theorem Bd.enc_eq (b : Bd) : b.enc = .tup b.ws := by cases b <;> rfl
theorem Bd.pl : ∀ b : Bd, PlW (b.ht + 1) b.enc
  | .num n => pl_tup (pls_cons (pl_str (by decide +kernel)) (pls_cons pl_int pls_nil))
  | .arg => pl_tup (pls_cons (pl_str (by decide +kernel)) pls_nil)
  | .way f => pl_tup (pls_cons (pl_str (by decide +kernel)) (pls_cons pl_int pls_nil))
  | .plus a b => pl_tup (pls_cons (pl_str (by decide +kernel)) (pls_cons (a.pl.mono (by simp only [Bd.ht]; omega)) (pls_cons (b.pl.mono (by simp only [Bd.ht]; omega)) pls_nil)))
  | .less a b => pl_tup (pls_cons (pl_str (by decide +kernel)) (pls_cons (a.pl.mono (by simp only [Bd.ht]; omega)) (pls_cons (b.pl.mono (by simp only [Bd.ht]; omega)) pls_nil)))
  | .times a b => pl_tup (pls_cons (pl_str (by decide +kernel)) (pls_cons (a.pl.mono (by simp only [Bd.ht]; omega)) (pls_cons (b.pl.mono (by simp only [Bd.ht]; omega)) pls_nil)))
  | .iff a b c => pl_tup (pls_cons (pl_str (by decide +kernel)) (pls_cons (a.pl.mono (by simp only [Bd.ht]; omega)) (pls_cons (b.pl.mono (by simp only [Bd.ht]; omega)) (pls_cons (c.pl.mono (by simp only [Bd.ht]; omega)) pls_nil))))
  | .thn a b => pl_tup (pls_cons (pl_str (by decide +kernel)) (pls_cons (a.pl.mono (by simp only [Bd.ht]; omega)) (pls_cons (b.pl.mono (by simp only [Bd.ht]; omega)) pls_nil)))
  | .say a => pl_tup (pls_cons (pl_str (by decide +kernel)) (pls_cons (a.pl.mono (by simp only [Bd.ht]; omega)) pls_nil))
  | .call f a => pl_tup (pls_cons (pl_str (by decide +kernel)) (pls_cons pl_int (pls_cons (a.pl.mono (by simp only [Bd.ht]; omega)) pls_nil)))
  | .thr a b => pl_tup (pls_cons (pl_str (by decide +kernel)) (pls_cons (a.pl.mono (by simp only [Bd.ht]; omega)) (pls_cons (b.pl.mono (by simp only [Bd.ht]; omega)) pls_nil)))
def c_is_number : Ss := .cons (.ret (.bool true (.cons (.isi .int (.var 0)) (.cons (.not (.isi .bl (.var 0))) (.cons (.chain .LtE .LtE (.var 1) (.var 0) (.var 2)) .nil))))) .nil
theorem st_is_number {Γ : Gam} {D : Dw} {σ : Sw} {M : Mh} : dSs Γ c_is_number D σ M = dSc Γ (.ret (.bool true (.cons (.isi .int (.var 0)) (.cons (.not (.isi .bl (.var 0))) (.cons (.chain .LtE .LtE (.var 1) (.var 0) (.var 2)) .nil))))) { D with nx := dSs Γ .nil D } σ M := rfl
def n_is_number : List Str := ["part", "low", "high"]
def c_words_in_6 : Ss := .cons (.ret (.bin .Add false (.glob 10) (.lit (.int 1)))) .nil
theorem st_words_in_6 {Γ : Gam} {D : Dw} {σ : Sw} {M : Mh} : dSs Γ c_words_in_6 D σ M = dSc Γ (.ret (.bin .Add false (.glob 10) (.lit (.int 1)))) { D with nx := dSs Γ .nil D } σ M := rfl
def c_words_in_7 : Ss := .cons (.ret (.bin .Add false (.glob 10) (.lit (.int 1)))) .nil
theorem st_words_in_7 {Γ : Gam} {D : Dw} {σ : Sw} {M : Mh} : dSs Γ c_words_in_7 D σ M = dSc Γ (.ret (.bin .Add false (.glob 10) (.lit (.int 1)))) { D with nx := dSs Γ .nil D } σ M := rfl
def c_words_in_9 : Ss := .cons (.asg (.name 4) (.bin .Add false (.var 4) (.call 1 (.cons (.var 5) (.cons (.var 1) (.cons (.bin .Add false (.var 2) (.lit (.int 1))) .nil)))))) .nil
theorem st_words_in_9 {Γ : Gam} {D : Dw} {σ : Sw} {M : Mh} : dSs Γ c_words_in_9 D σ M = dSc Γ (.asg (.name 4) (.bin .Add false (.var 4) (.call 1 (.cons (.var 5) (.cons (.var 1) (.cons (.bin .Add false (.var 2) (.lit (.int 1))) .nil)))))) { D with nx := dSs Γ .nil D } σ M := rfl
def c_words_in_11 : Ss := .cons (.ret (.bin .Add false (.glob 10) (.lit (.int 1)))) .nil
theorem st_words_in_11 {Γ : Gam} {D : Dw} {σ : Sw} {M : Mh} : dSs Γ c_words_in_11 D σ M = dSc Γ (.ret (.bin .Add false (.glob 10) (.lit (.int 1)))) { D with nx := dSs Γ .nil D } σ M := rfl
def c_words_in_10 : Ss := .cons (.ite (.not (.call 0 (.cons (.var 5) (.cons (.lit (.int 0)) (.cons (.ite (.cmp .Eq (.var 6) (.lit (.str "n"))) (.glob 6) (.bin .Sub false (.var 1) (.lit (.int 1)))) .nil))))) c_words_in_11 .nil) .nil
theorem st_words_in_10 {Γ : Gam} {D : Dw} {σ : Sw} {M : Mh} : dSs Γ c_words_in_10 D σ M = dSc Γ (.ite (.not (.call 0 (.cons (.var 5) (.cons (.lit (.int 0)) (.cons (.ite (.cmp .Eq (.var 6) (.lit (.str "n"))) (.glob 6) (.bin .Sub false (.var 1) (.lit (.int 1)))) .nil))))) c_words_in_11 .nil) { D with nx := dSs Γ .nil D } σ M := rfl
def c_words_in_8 : Ss := .cons (.ite (.cmp .Eq (.var 6) (.lit (.str "x"))) c_words_in_9 c_words_in_10) .nil
theorem st_words_in_8 {Γ : Gam} {D : Dw} {σ : Sw} {M : Mh} : dSs Γ c_words_in_8 D σ M = dSc Γ (.ite (.cmp .Eq (.var 6) (.lit (.str "x"))) c_words_in_9 c_words_in_10) { D with nx := dSs Γ .nil D } σ M := rfl
def c_words_in_5 : Ss := .cons (.ret (.var 4)) .nil
theorem st_words_in_5 {Γ : Gam} {D : Dw} {σ : Sw} {M : Mh} : dSs Γ c_words_in_5 D σ M = dSc Γ (.ret (.var 4)) { D with nx := dSs Γ .nil D } σ M := rfl
def c_words_in_4 : Ss := .cons (.for_ (.tup [5, 6]) (.zip (.slice false (.var 0) (.some (.lit (.int 1))) .none) (.var 3)) c_words_in_8) c_words_in_5
theorem st_words_in_4 {Γ : Gam} {D : Dw} {σ : Sw} {M : Mh} : dSs Γ c_words_in_4 D σ M = dSc Γ (.for_ (.tup [5, 6]) (.zip (.slice false (.var 0) (.some (.lit (.int 1))) .none) (.var 3)) c_words_in_8) { D with nx := dSs Γ c_words_in_5 D } σ M := rfl
def c_words_in_3 : Ss := .cons (.asg (.name 4) (.lit (.int 1))) c_words_in_4
theorem st_words_in_3 {Γ : Gam} {D : Dw} {σ : Sw} {M : Mh} : dSs Γ c_words_in_3 D σ M = dSc Γ (.asg (.name 4) (.lit (.int 1))) { D with nx := dSs Γ c_words_in_4 D } σ M := rfl
def c_words_in_2 : Ss := .cons (.ite (.bool false (.cons (.cmp .Is (.var 3) (.lit .non)) (.cons (.cmp .NotEq (.blt false .len (.cons (.var 0) .nil)) (.bin .Add false (.blt false .len (.cons (.var 3) .nil)) (.lit (.int 1)))) .nil))) c_words_in_7 .nil) c_words_in_3
theorem st_words_in_2 {Γ : Gam} {D : Dw} {σ : Sw} {M : Mh} : dSs Γ c_words_in_2 D σ M = dSc Γ (.ite (.bool false (.cons (.cmp .Is (.var 3) (.lit .non)) (.cons (.cmp .NotEq (.blt false .len (.cons (.var 0) .nil)) (.bin .Add false (.blt false .len (.cons (.var 3) .nil)) (.lit (.int 1)))) .nil))) c_words_in_7 .nil) { D with nx := dSs Γ c_words_in_3 D } σ M := rfl
def c_words_in_1 : Ss := .cons (.asg (.name 3) (.kget 0 (.idx (.var 0) (.lit (.int 0))))) c_words_in_2
theorem st_words_in_1 {Γ : Gam} {D : Dw} {σ : Sw} {M : Mh} : dSs Γ c_words_in_1 D σ M = dSc Γ (.asg (.name 3) (.kget 0 (.idx (.var 0) (.lit (.int 0))))) { D with nx := dSs Γ c_words_in_2 D } σ M := rfl
def c_words_in : Ss := .cons (.ite (.bool false (.cons (.not (.isi .tup (.var 0))) (.cons (.cmp .Eq (.var 0) (.tup .nil)) (.cons (.not (.isi .str (.idx (.var 0) (.lit (.int 0))))) (.cons (.cmp .Gt (.var 2) (.glob 9)) .nil))))) c_words_in_6 .nil) c_words_in_1
theorem st_words_in {Γ : Gam} {D : Dw} {σ : Sw} {M : Mh} : dSs Γ c_words_in D σ M = dSc Γ (.ite (.bool false (.cons (.not (.isi .tup (.var 0))) (.cons (.cmp .Eq (.var 0) (.tup .nil)) (.cons (.not (.isi .str (.idx (.var 0) (.lit (.int 0))))) (.cons (.cmp .Gt (.var 2) (.glob 9)) .nil))))) c_words_in_6 .nil) { D with nx := dSs Γ c_words_in_1 D } σ M := rfl
def n_words_in : List Str := ["body", "many", "within", "arms", "found", "arm", "sort"]
def c_is_function_2 : Ss := .cons (.ret (.lit (.bl false))) .nil
theorem st_is_function_2 {Γ : Gam} {D : Dw} {σ : Sw} {M : Mh} : dSs Γ c_is_function_2 D σ M = dSc Γ (.ret (.lit (.bl false))) { D with nx := dSs Γ .nil D } σ M := rfl
def c_is_function_1 : Ss := .cons (.ret (.cmp .LtE (.call 1 (.cons (.idx (.var 0) (.lit (.int 1))) (.cons (.var 1) (.cons (.lit (.int 0)) .nil)))) (.glob 10))) .nil
theorem st_is_function_1 {Γ : Gam} {D : Dw} {σ : Sw} {M : Mh} : dSs Γ c_is_function_1 D σ M = dSc Γ (.ret (.cmp .LtE (.call 1 (.cons (.idx (.var 0) (.lit (.int 1))) (.cons (.var 1) (.cons (.lit (.int 0)) .nil)))) (.glob 10))) { D with nx := dSs Γ .nil D } σ M := rfl
def c_is_function : Ss := .cons (.ite (.bool false (.cons (.not (.isi .tup (.var 0))) (.cons (.cmp .NotEq (.blt false .len (.cons (.var 0) .nil)) (.lit (.int 2))) (.cons (.not (.call 0 (.cons (.idx (.var 0) (.lit (.int 0))) (.cons (.lit (.int 1)) (.cons (.glob 8) .nil))))) .nil)))) c_is_function_2 .nil) c_is_function_1
theorem st_is_function {Γ : Gam} {D : Dw} {σ : Sw} {M : Mh} : dSs Γ c_is_function D σ M = dSc Γ (.ite (.bool false (.cons (.not (.isi .tup (.var 0))) (.cons (.cmp .NotEq (.blt false .len (.cons (.var 0) .nil)) (.lit (.int 2))) (.cons (.not (.call 0 (.cons (.idx (.var 0) (.lit (.int 0))) (.cons (.lit (.int 1)) (.cons (.glob 8) .nil))))) .nil)))) c_is_function_2 .nil) { D with nx := dSs Γ c_is_function_1 D } σ M := rfl
def n_is_function : List Str := ["function", "many"]
def c_need_program_2 : Ss := .cons .never .nil
theorem st_need_program_2 {Γ : Gam} {D : Dw} {σ : Sw} {M : Mh} : dSs Γ c_need_program_2 D σ M = dSc Γ .never { D with nx := dSs Γ .nil D } σ M := rfl
def c_need_program_4 : Ss := .cons .never .nil
theorem st_need_program_4 {Γ : Gam} {D : Dw} {σ : Sw} {M : Mh} : dSs Γ c_need_program_4 D σ M = dSc Γ .never { D with nx := dSs Γ .nil D } σ M := rfl
def c_need_program_3 : Ss := .cons (.ite (.bool false (.cons (.cmp .GtE (.var 1) (.glob 5)) (.cons (.not (.call 2 (.cons (.idx (.var 0) (.var 1)) (.cons (.blt false .len (.cons (.var 0) .nil)) .nil)))) .nil))) c_need_program_4 .nil) .nil
theorem st_need_program_3 {Γ : Gam} {D : Dw} {σ : Sw} {M : Mh} : dSs Γ c_need_program_3 D σ M = dSc Γ (.ite (.bool false (.cons (.cmp .GtE (.var 1) (.glob 5)) (.cons (.not (.call 2 (.cons (.idx (.var 0) (.var 1)) (.cons (.blt false .len (.cons (.var 0) .nil)) .nil)))) .nil))) c_need_program_4 .nil) { D with nx := dSs Γ .nil D } σ M := rfl
def c_need_program_1 : Ss := .cons (.for_ (.name 1) (.rg1 (.blt false .len (.cons (.var 0) .nil))) c_need_program_3) .nil
theorem st_need_program_1 {Γ : Gam} {D : Dw} {σ : Sw} {M : Mh} : dSs Γ c_need_program_1 D σ M = dSc Γ (.for_ (.name 1) (.rg1 (.blt false .len (.cons (.var 0) .nil))) c_need_program_3) { D with nx := dSs Γ .nil D } σ M := rfl
def c_need_program : Ss := .cons (.ite (.cmp .Eq (.blt false .len (.cons (.var 0) .nil)) (.lit (.int 0))) c_need_program_2 .nil) c_need_program_1
theorem st_need_program {Γ : Gam} {D : Dw} {σ : Sw} {M : Mh} : dSs Γ c_need_program D σ M = dSc Γ (.ite (.cmp .Eq (.blt false .len (.cons (.var 0) .nil)) (.lit (.int 0))) c_need_program_2 .nil) { D with nx := dSs Γ c_need_program_1 D } σ M := rfl
def n_need_program : List Str := ["program", "number"]
def sp_is_number : Nat → Wp := fun _ ws M Q _ => ∃ i lo hi, ws = [.int i, .int lo, .int hi] ∧ Q (.bl (decide (lo ≤ i) && decide (i ≤ hi))) M
theorem keep_is_number {Γ : Gam} {k : Nat} : KeepC Γ n_is_number 3 c_is_number (sp_is_number k) := by
  rintro ws M Q Ex ⟨i, lo, hi, rfl, q⟩
  refine ⟨rfl, ?_⟩
  show dSs Γ _ _ [some (.int i), some (.int lo), some (.int hi)] M
  simp only [st_is_number, dX, dXs, dXo, dXi, dSc, d2, d1, dN, dVar, dC, dTup, dLst, dTru, dB, dChain, dIte, dNotV, dNotT, dJoinV, dJoinT, dNil, dCons, dCall, dBM, dIsi, dIsi2, dAttr, dMeth, dNew, dDget, dDin, dDnew, dKidx, dKin, dKget, dDisp, dFrz, dSlice, dNoPart, dPart, dAsg, dExpr, dRet, dIf, dFld, dSet, dDput, dNever, dFor, dNext, binP, cmpP, iSeqD, iRg1, iRg2, iZip, iEnumD, Tg.asg, setAll, List.set, List.map_cons, List.map_nil, subW, modW, fdivW, powW, ltW, leW, gtW, geW, newL, finD, frzO, tupW, listW, oneW, twoW, BI.w, ints_eq, add_int, add_str, add_tup, add_lst, mul_int, mul_lst, idx_tup, idx_lst, idx_scr, idx_str, len_tup, len_lst, len_scr, len_str, sl_tup, sl_lst, neg_int, str_int, str_str, int_int, int_bl, is_non, is_int, is_str, is_tup, is_lst, is_bl, is_bb, eq_int, eq_str, eq_bl, ne_int, ne_str, ne_bl, eq_nilL, ty_non, ty_bl, ty_int, ty_str, ty_tup, ty_lst, ty_scr, ty_dk, Ty.sub, tr_bl, tr_non, tr_int, tr_str, sv_lst, sv_tup, sv_scr, lv_lst, at0, at1, at2, cut1, len0, ss_nil, for_nil, for_cons, pairs_cons, pairs_nil, pairs_nil', walk_lst, walk_scr, walk_tup, walk_str, walk_ref, List.getElem?_cons_zero, List.getElem?_cons_succ, List.length_cons, List.length_nil, List.append_nil, List.cons_append, List.nil_append, Option.some.injEq, W.int.injEq, W.str.injEq, W.bl.injEq, W.tup.injEq, W.lst.injEq, W.ref.injEq, List.cons.injEq, Option.map_some, exists_and_left, exists_and_right, exists_eq_left, exists_eq_left', exists_eq, exists_eq', exists_eq_right, exists_eq_right', and_true, true_and, and_assoc, reduceIte, reduceCtorEq, decide_true, decide_false, decide_eq_true_eq, decide_eq_false_iff_not, Bool.not_eq_true', Bool.not_eq_false', Bool.true_eq_false, Bool.false_eq_true, if_true, if_false, Bool.not_true, Bool.not_false, ite_true, ite_false, Int.cast_ofNat_Int, Int.reduceAdd, Int.reduceSub, Int.reduceEq, Int.reduceLT, Int.reduceLE, Int.natCast_add, Nat.reduceEqDiff, Nat.reduceAdd, Nat.add_zero, Nat.zero_add, Nat.succ_ne_zero, not_true_eq_false, not_false_eq_true, Option.getD_some, Option.getD_none]
  by_cases h : lo ≤ i
  · simpa [h] using q
  · simpa [h] using q
def sp_words_in : Nat → Wp := fun k ws M Q _ => ∃ (b : Bd) (m w : Nat), ws = [b.enc, .int m, .int w] ∧ b.ok m ∧ w + b.ht ≤ 6 ∧ b.ht + 1 ≤ k ∧ Q (.int b.cnt) M
theorem use_words {k : Nat} {b : Bd} {m w : Nat} {M : Mh} {Q : QW} {Ex : QX} (hb : b.ok m) (hw : w + 1 + b.ht ≤ 6) (hk : b.ht + 1 ≤ k) (q : Q (.int b.cnt) M) : sp_words_in k [b.enc, .int m, .int ((w : Int) + 1)] M Q Ex := ⟨b, m, w + 1, rfl, hb, hw, hk, q⟩
theorem use_num {k : Nat} {i lo hi : Int} {M : Mh} {Q : QW} {Ex : QX} (h1 : lo ≤ i) (h2 : i ≤ hi) (q : Q (.bl true) M) : sp_is_number k [.int i, .int lo, .int hi] M Q Ex := ⟨i, lo, hi, rfl, by simpa [h1, h2] using q⟩
theorem keep_words_in {Γ : Gam} {k : Nat} (f_words_in : Γ.fn 1 = dn sp_words_in k) (f_is_number : Γ.fn 0 = dn sp_is_number k) (g_MOST_WITHIN : Γ.gl 9 = .int 6) (g_MOST_WORDS : Γ.gl 10 = .int 40) (g_MOST_NUM : Γ.gl 6 = .int 99) (k_ARMS : Γ.kd 0 = ARMS) : KeepC Γ n_words_in 3 c_words_in (sp_words_in k) := by
  rintro ws M Q Ex ⟨b, m, w, rfl, hb, hw, hk, q⟩
  refine ⟨rfl, ?_⟩
  show dSs Γ _ _ [some b.enc, some (.int m), some (.int w), none, none, none, none] M
  cases k with
  | zero => omega
  | succ k =>
  have hp : PlW 64 b.enc := b.pl.mono (by omega)
  have hw6 : ¬ ((6 : Int) < (w : Int)) := by omega
  rw [Bd.enc_eq] at hp ⊢
  rw [st_words_in]
  cases b with
  | num n =>
    simp only [Bd.ws] at hp ⊢
    simp only [eq_tup0 hp, f_words_in, f_is_number, g_MOST_WITHIN, g_MOST_WORDS, g_MOST_NUM, k_ARMS, dn, hw6, st_words_in_6, st_words_in_7, st_words_in_9, st_words_in_11, st_words_in_10, st_words_in_8, st_words_in_5, st_words_in_4, st_words_in_3, st_words_in_2, st_words_in_1, st_words_in, tl_num, ln_n, sg_n, dX, dXs, dXo, dXi, dSc, d2, d1, dN, dVar, dC, dTup, dLst, dTru, dB, dChain, dIte, dNotV, dNotT, dJoinV, dJoinT, dNil, dCons, dCall, dBM, dIsi, dIsi2, dAttr, dMeth, dNew, dDget, dDin, dDnew, dKidx, dKin, dKget, dDisp, dFrz, dSlice, dNoPart, dPart, dAsg, dExpr, dRet, dIf, dFld, dSet, dDput, dNever, dFor, dNext, binP, cmpP, iSeqD, iRg1, iRg2, iZip, iEnumD, Tg.asg, setAll, List.set, List.map_cons, List.map_nil, subW, modW, fdivW, powW, ltW, leW, gtW, geW, newL, finD, frzO, tupW, listW, oneW, twoW, BI.w, ints_eq, add_int, add_str, add_tup, add_lst, mul_int, mul_lst, idx_tup, idx_lst, idx_scr, idx_str, len_tup, len_lst, len_scr, len_str, sl_tup, sl_lst, neg_int, str_int, str_str, int_int, int_bl, is_non, is_int, is_str, is_tup, is_lst, is_bl, is_bb, eq_int, eq_str, eq_bl, ne_int, ne_str, ne_bl, eq_nilL, ty_non, ty_bl, ty_int, ty_str, ty_tup, ty_lst, ty_scr, ty_dk, Ty.sub, tr_bl, tr_non, tr_int, tr_str, sv_lst, sv_tup, sv_scr, lv_lst, at0, at1, at2, cut1, len0, ss_nil, for_nil, for_cons, pairs_cons, pairs_nil, pairs_nil', walk_lst, walk_scr, walk_tup, walk_str, walk_ref, List.getElem?_cons_zero, List.getElem?_cons_succ, List.length_cons, List.length_nil, List.append_nil, List.cons_append, List.nil_append, Option.some.injEq, W.int.injEq, W.str.injEq, W.bl.injEq, W.tup.injEq, W.lst.injEq, W.ref.injEq, List.cons.injEq, Option.map_some, exists_and_left, exists_and_right, exists_eq_left, exists_eq_left', exists_eq, exists_eq', exists_eq_right, exists_eq_right', and_true, true_and, and_assoc, reduceIte, reduceCtorEq, decide_true, decide_false, decide_eq_true_eq, decide_eq_false_iff_not, Bool.not_eq_true', Bool.not_eq_false', Bool.true_eq_false, Bool.false_eq_true, if_true, if_false, Bool.not_true, Bool.not_false, ite_true, ite_false, Int.cast_ofNat_Int, Int.reduceAdd, Int.reduceSub, Int.reduceEq, Int.reduceLT, Int.reduceLE, Int.natCast_add, Nat.reduceEqDiff, Nat.reduceAdd, Nat.add_zero, Nat.zero_add, Nat.succ_ne_zero, not_true_eq_false, not_false_eq_true, Option.getD_some, Option.getD_none, nx, fx, fn_]
    exact ⟨by decide, use_num (by omega) (by have : n ≤ 99 := hb; omega) (by simp only [dX, dXs, dXo, dXi, dSc, d2, d1, dN, dVar, dC, dTup, dLst, dTru, dB, dChain, dIte, dNotV, dNotT, dJoinV, dJoinT, dNil, dCons, dCall, dBM, dIsi, dIsi2, dAttr, dMeth, dNew, dDget, dDin, dDnew, dKidx, dKin, dKget, dDisp, dFrz, dSlice, dNoPart, dPart, dAsg, dExpr, dRet, dIf, dFld, dSet, dDput, dNever, dFor, dNext, binP, cmpP, iSeqD, iRg1, iRg2, iZip, iEnumD, Tg.asg, setAll, List.set, List.map_cons, List.map_nil, subW, modW, fdivW, powW, ltW, leW, gtW, geW, newL, finD, frzO, tupW, listW, oneW, twoW, BI.w, ints_eq, add_int, add_str, add_tup, add_lst, mul_int, mul_lst, idx_tup, idx_lst, idx_scr, idx_str, len_tup, len_lst, len_scr, len_str, sl_tup, sl_lst, neg_int, str_int, str_str, int_int, int_bl, is_non, is_int, is_str, is_tup, is_lst, is_bl, is_bb, eq_int, eq_str, eq_bl, ne_int, ne_str, ne_bl, eq_nilL, ty_non, ty_bl, ty_int, ty_str, ty_tup, ty_lst, ty_scr, ty_dk, Ty.sub, tr_bl, tr_non, tr_int, tr_str, sv_lst, sv_tup, sv_scr, lv_lst, at0, at1, at2, cut1, len0, ss_nil, for_nil, for_cons, pairs_cons, pairs_nil, pairs_nil', walk_lst, walk_scr, walk_tup, walk_str, walk_ref, List.getElem?_cons_zero, List.getElem?_cons_succ, List.length_cons, List.length_nil, List.append_nil, List.cons_append, List.nil_append, Option.some.injEq, W.int.injEq, W.str.injEq, W.bl.injEq, W.tup.injEq, W.lst.injEq, W.ref.injEq, List.cons.injEq, Option.map_some, exists_and_left, exists_and_right, exists_eq_left, exists_eq_left', exists_eq, exists_eq', exists_eq_right, exists_eq_right', and_true, true_and, and_assoc, reduceIte, reduceCtorEq, decide_true, decide_false, decide_eq_true_eq, decide_eq_false_iff_not, Bool.not_eq_true', Bool.not_eq_false', Bool.true_eq_false, Bool.false_eq_true, if_true, if_false, Bool.not_true, Bool.not_false, ite_true, ite_false, Int.cast_ofNat_Int, Int.reduceAdd, Int.reduceSub, Int.reduceEq, Int.reduceLT, Int.reduceLE, Int.natCast_add, Nat.reduceEqDiff, Nat.reduceAdd, Nat.add_zero, Nat.zero_add, Nat.succ_ne_zero, not_true_eq_false, not_false_eq_true, Option.getD_some, Option.getD_none]; exact q)⟩
  | arg =>
    simp only [Bd.ws] at hp ⊢
    simp only [eq_tup0 hp, f_words_in, f_is_number, g_MOST_WITHIN, g_MOST_WORDS, g_MOST_NUM, k_ARMS, dn, hw6, st_words_in_6, st_words_in_7, st_words_in_9, st_words_in_11, st_words_in_10, st_words_in_8, st_words_in_5, st_words_in_4, st_words_in_3, st_words_in_2, st_words_in_1, st_words_in, tl_argument, ln_0, sg_0, dX, dXs, dXo, dXi, dSc, d2, d1, dN, dVar, dC, dTup, dLst, dTru, dB, dChain, dIte, dNotV, dNotT, dJoinV, dJoinT, dNil, dCons, dCall, dBM, dIsi, dIsi2, dAttr, dMeth, dNew, dDget, dDin, dDnew, dKidx, dKin, dKget, dDisp, dFrz, dSlice, dNoPart, dPart, dAsg, dExpr, dRet, dIf, dFld, dSet, dDput, dNever, dFor, dNext, binP, cmpP, iSeqD, iRg1, iRg2, iZip, iEnumD, Tg.asg, setAll, List.set, List.map_cons, List.map_nil, subW, modW, fdivW, powW, ltW, leW, gtW, geW, newL, finD, frzO, tupW, listW, oneW, twoW, BI.w, ints_eq, add_int, add_str, add_tup, add_lst, mul_int, mul_lst, idx_tup, idx_lst, idx_scr, idx_str, len_tup, len_lst, len_scr, len_str, sl_tup, sl_lst, neg_int, str_int, str_str, int_int, int_bl, is_non, is_int, is_str, is_tup, is_lst, is_bl, is_bb, eq_int, eq_str, eq_bl, ne_int, ne_str, ne_bl, eq_nilL, ty_non, ty_bl, ty_int, ty_str, ty_tup, ty_lst, ty_scr, ty_dk, Ty.sub, tr_bl, tr_non, tr_int, tr_str, sv_lst, sv_tup, sv_scr, lv_lst, at0, at1, at2, cut1, len0, ss_nil, for_nil, for_cons, pairs_cons, pairs_nil, pairs_nil', walk_lst, walk_scr, walk_tup, walk_str, walk_ref, List.getElem?_cons_zero, List.getElem?_cons_succ, List.length_cons, List.length_nil, List.append_nil, List.cons_append, List.nil_append, Option.some.injEq, W.int.injEq, W.str.injEq, W.bl.injEq, W.tup.injEq, W.lst.injEq, W.ref.injEq, List.cons.injEq, Option.map_some, exists_and_left, exists_and_right, exists_eq_left, exists_eq_left', exists_eq, exists_eq', exists_eq_right, exists_eq_right', and_true, true_and, and_assoc, reduceIte, reduceCtorEq, decide_true, decide_false, decide_eq_true_eq, decide_eq_false_iff_not, Bool.not_eq_true', Bool.not_eq_false', Bool.true_eq_false, Bool.false_eq_true, if_true, if_false, Bool.not_true, Bool.not_false, ite_true, ite_false, Int.cast_ofNat_Int, Int.reduceAdd, Int.reduceSub, Int.reduceEq, Int.reduceLT, Int.reduceLE, Int.natCast_add, Nat.reduceEqDiff, Nat.reduceAdd, Nat.add_zero, Nat.zero_add, Nat.succ_ne_zero, not_true_eq_false, not_false_eq_true, Option.getD_some, Option.getD_none, nx, fx, fn_]
    first | exact ⟨by decide, q⟩ | exact q
  | way f =>
    simp only [Bd.ws] at hp ⊢
    simp only [eq_tup0 hp, f_words_in, f_is_number, g_MOST_WITHIN, g_MOST_WORDS, g_MOST_NUM, k_ARMS, dn, hw6, st_words_in_6, st_words_in_7, st_words_in_9, st_words_in_11, st_words_in_10, st_words_in_8, st_words_in_5, st_words_in_4, st_words_in_3, st_words_in_2, st_words_in_1, st_words_in, tl_way, ln_f, sg_f, dX, dXs, dXo, dXi, dSc, d2, d1, dN, dVar, dC, dTup, dLst, dTru, dB, dChain, dIte, dNotV, dNotT, dJoinV, dJoinT, dNil, dCons, dCall, dBM, dIsi, dIsi2, dAttr, dMeth, dNew, dDget, dDin, dDnew, dKidx, dKin, dKget, dDisp, dFrz, dSlice, dNoPart, dPart, dAsg, dExpr, dRet, dIf, dFld, dSet, dDput, dNever, dFor, dNext, binP, cmpP, iSeqD, iRg1, iRg2, iZip, iEnumD, Tg.asg, setAll, List.set, List.map_cons, List.map_nil, subW, modW, fdivW, powW, ltW, leW, gtW, geW, newL, finD, frzO, tupW, listW, oneW, twoW, BI.w, ints_eq, add_int, add_str, add_tup, add_lst, mul_int, mul_lst, idx_tup, idx_lst, idx_scr, idx_str, len_tup, len_lst, len_scr, len_str, sl_tup, sl_lst, neg_int, str_int, str_str, int_int, int_bl, is_non, is_int, is_str, is_tup, is_lst, is_bl, is_bb, eq_int, eq_str, eq_bl, ne_int, ne_str, ne_bl, eq_nilL, ty_non, ty_bl, ty_int, ty_str, ty_tup, ty_lst, ty_scr, ty_dk, Ty.sub, tr_bl, tr_non, tr_int, tr_str, sv_lst, sv_tup, sv_scr, lv_lst, at0, at1, at2, cut1, len0, ss_nil, for_nil, for_cons, pairs_cons, pairs_nil, pairs_nil', walk_lst, walk_scr, walk_tup, walk_str, walk_ref, List.getElem?_cons_zero, List.getElem?_cons_succ, List.length_cons, List.length_nil, List.append_nil, List.cons_append, List.nil_append, Option.some.injEq, W.int.injEq, W.str.injEq, W.bl.injEq, W.tup.injEq, W.lst.injEq, W.ref.injEq, List.cons.injEq, Option.map_some, exists_and_left, exists_and_right, exists_eq_left, exists_eq_left', exists_eq, exists_eq', exists_eq_right, exists_eq_right', and_true, true_and, and_assoc, reduceIte, reduceCtorEq, decide_true, decide_false, decide_eq_true_eq, decide_eq_false_iff_not, Bool.not_eq_true', Bool.not_eq_false', Bool.true_eq_false, Bool.false_eq_true, if_true, if_false, Bool.not_true, Bool.not_false, ite_true, ite_false, Int.cast_ofNat_Int, Int.reduceAdd, Int.reduceSub, Int.reduceEq, Int.reduceLT, Int.reduceLE, Int.natCast_add, Nat.reduceEqDiff, Nat.reduceAdd, Nat.add_zero, Nat.zero_add, Nat.succ_ne_zero, not_true_eq_false, not_false_eq_true, Option.getD_some, Option.getD_none, nx, fx, fn_]
    exact ⟨by decide, use_num (by omega) (by have : f < m := hb; omega) (by simp only [dX, dXs, dXo, dXi, dSc, d2, d1, dN, dVar, dC, dTup, dLst, dTru, dB, dChain, dIte, dNotV, dNotT, dJoinV, dJoinT, dNil, dCons, dCall, dBM, dIsi, dIsi2, dAttr, dMeth, dNew, dDget, dDin, dDnew, dKidx, dKin, dKget, dDisp, dFrz, dSlice, dNoPart, dPart, dAsg, dExpr, dRet, dIf, dFld, dSet, dDput, dNever, dFor, dNext, binP, cmpP, iSeqD, iRg1, iRg2, iZip, iEnumD, Tg.asg, setAll, List.set, List.map_cons, List.map_nil, subW, modW, fdivW, powW, ltW, leW, gtW, geW, newL, finD, frzO, tupW, listW, oneW, twoW, BI.w, ints_eq, add_int, add_str, add_tup, add_lst, mul_int, mul_lst, idx_tup, idx_lst, idx_scr, idx_str, len_tup, len_lst, len_scr, len_str, sl_tup, sl_lst, neg_int, str_int, str_str, int_int, int_bl, is_non, is_int, is_str, is_tup, is_lst, is_bl, is_bb, eq_int, eq_str, eq_bl, ne_int, ne_str, ne_bl, eq_nilL, ty_non, ty_bl, ty_int, ty_str, ty_tup, ty_lst, ty_scr, ty_dk, Ty.sub, tr_bl, tr_non, tr_int, tr_str, sv_lst, sv_tup, sv_scr, lv_lst, at0, at1, at2, cut1, len0, ss_nil, for_nil, for_cons, pairs_cons, pairs_nil, pairs_nil', walk_lst, walk_scr, walk_tup, walk_str, walk_ref, List.getElem?_cons_zero, List.getElem?_cons_succ, List.length_cons, List.length_nil, List.append_nil, List.cons_append, List.nil_append, Option.some.injEq, W.int.injEq, W.str.injEq, W.bl.injEq, W.tup.injEq, W.lst.injEq, W.ref.injEq, List.cons.injEq, Option.map_some, exists_and_left, exists_and_right, exists_eq_left, exists_eq_left', exists_eq, exists_eq', exists_eq_right, exists_eq_right', and_true, true_and, and_assoc, reduceIte, reduceCtorEq, decide_true, decide_false, decide_eq_true_eq, decide_eq_false_iff_not, Bool.not_eq_true', Bool.not_eq_false', Bool.true_eq_false, Bool.false_eq_true, if_true, if_false, Bool.not_true, Bool.not_false, ite_true, ite_false, Int.cast_ofNat_Int, Int.reduceAdd, Int.reduceSub, Int.reduceEq, Int.reduceLT, Int.reduceLE, Int.natCast_add, Nat.reduceEqDiff, Nat.reduceAdd, Nat.add_zero, Nat.zero_add, Nat.succ_ne_zero, not_true_eq_false, not_false_eq_true, Option.getD_some, Option.getD_none]; exact q)⟩
  | plus a b =>
    simp only [Bd.ws] at hp ⊢
    simp only [eq_tup0 hp, f_words_in, f_is_number, g_MOST_WITHIN, g_MOST_WORDS, g_MOST_NUM, k_ARMS, dn, hw6, st_words_in_6, st_words_in_7, st_words_in_9, st_words_in_11, st_words_in_10, st_words_in_8, st_words_in_5, st_words_in_4, st_words_in_3, st_words_in_2, st_words_in_1, st_words_in, tl_plus, ln_xx, sg_xx, dX, dXs, dXo, dXi, dSc, d2, d1, dN, dVar, dC, dTup, dLst, dTru, dB, dChain, dIte, dNotV, dNotT, dJoinV, dJoinT, dNil, dCons, dCall, dBM, dIsi, dIsi2, dAttr, dMeth, dNew, dDget, dDin, dDnew, dKidx, dKin, dKget, dDisp, dFrz, dSlice, dNoPart, dPart, dAsg, dExpr, dRet, dIf, dFld, dSet, dDput, dNever, dFor, dNext, binP, cmpP, iSeqD, iRg1, iRg2, iZip, iEnumD, Tg.asg, setAll, List.set, List.map_cons, List.map_nil, subW, modW, fdivW, powW, ltW, leW, gtW, geW, newL, finD, frzO, tupW, listW, oneW, twoW, BI.w, ints_eq, add_int, add_str, add_tup, add_lst, mul_int, mul_lst, idx_tup, idx_lst, idx_scr, idx_str, len_tup, len_lst, len_scr, len_str, sl_tup, sl_lst, neg_int, str_int, str_str, int_int, int_bl, is_non, is_int, is_str, is_tup, is_lst, is_bl, is_bb, eq_int, eq_str, eq_bl, ne_int, ne_str, ne_bl, eq_nilL, ty_non, ty_bl, ty_int, ty_str, ty_tup, ty_lst, ty_scr, ty_dk, Ty.sub, tr_bl, tr_non, tr_int, tr_str, sv_lst, sv_tup, sv_scr, lv_lst, at0, at1, at2, cut1, len0, ss_nil, for_nil, for_cons, pairs_cons, pairs_nil, pairs_nil', walk_lst, walk_scr, walk_tup, walk_str, walk_ref, List.getElem?_cons_zero, List.getElem?_cons_succ, List.length_cons, List.length_nil, List.append_nil, List.cons_append, List.nil_append, Option.some.injEq, W.int.injEq, W.str.injEq, W.bl.injEq, W.tup.injEq, W.lst.injEq, W.ref.injEq, List.cons.injEq, Option.map_some, exists_and_left, exists_and_right, exists_eq_left, exists_eq_left', exists_eq, exists_eq', exists_eq_right, exists_eq_right', and_true, true_and, and_assoc, reduceIte, reduceCtorEq, decide_true, decide_false, decide_eq_true_eq, decide_eq_false_iff_not, Bool.not_eq_true', Bool.not_eq_false', Bool.true_eq_false, Bool.false_eq_true, if_true, if_false, Bool.not_true, Bool.not_false, ite_true, ite_false, Int.cast_ofNat_Int, Int.reduceAdd, Int.reduceSub, Int.reduceEq, Int.reduceLT, Int.reduceLE, Int.natCast_add, Nat.reduceEqDiff, Nat.reduceAdd, Nat.add_zero, Nat.zero_add, Nat.succ_ne_zero, not_true_eq_false, not_false_eq_true, Option.getD_some, Option.getD_none, nx, fx, fn_]
    simp only [Bd.ht] at hw hk
    refine ⟨by decide, ?_⟩
    refine use_words hb.1 (by omega) (by omega) ?_
    simp only [add_int]
    refine use_words hb.2 (by omega) (by omega) ?_
    simp only [add_int]
    simpa only [Bd.cnt, Int.natCast_add, Int.cast_ofNat_Int] using q
  | less a b =>
    simp only [Bd.ws] at hp ⊢
    simp only [eq_tup0 hp, f_words_in, f_is_number, g_MOST_WITHIN, g_MOST_WORDS, g_MOST_NUM, k_ARMS, dn, hw6, st_words_in_6, st_words_in_7, st_words_in_9, st_words_in_11, st_words_in_10, st_words_in_8, st_words_in_5, st_words_in_4, st_words_in_3, st_words_in_2, st_words_in_1, st_words_in, tl_less, ln_xx, sg_xx, dX, dXs, dXo, dXi, dSc, d2, d1, dN, dVar, dC, dTup, dLst, dTru, dB, dChain, dIte, dNotV, dNotT, dJoinV, dJoinT, dNil, dCons, dCall, dBM, dIsi, dIsi2, dAttr, dMeth, dNew, dDget, dDin, dDnew, dKidx, dKin, dKget, dDisp, dFrz, dSlice, dNoPart, dPart, dAsg, dExpr, dRet, dIf, dFld, dSet, dDput, dNever, dFor, dNext, binP, cmpP, iSeqD, iRg1, iRg2, iZip, iEnumD, Tg.asg, setAll, List.set, List.map_cons, List.map_nil, subW, modW, fdivW, powW, ltW, leW, gtW, geW, newL, finD, frzO, tupW, listW, oneW, twoW, BI.w, ints_eq, add_int, add_str, add_tup, add_lst, mul_int, mul_lst, idx_tup, idx_lst, idx_scr, idx_str, len_tup, len_lst, len_scr, len_str, sl_tup, sl_lst, neg_int, str_int, str_str, int_int, int_bl, is_non, is_int, is_str, is_tup, is_lst, is_bl, is_bb, eq_int, eq_str, eq_bl, ne_int, ne_str, ne_bl, eq_nilL, ty_non, ty_bl, ty_int, ty_str, ty_tup, ty_lst, ty_scr, ty_dk, Ty.sub, tr_bl, tr_non, tr_int, tr_str, sv_lst, sv_tup, sv_scr, lv_lst, at0, at1, at2, cut1, len0, ss_nil, for_nil, for_cons, pairs_cons, pairs_nil, pairs_nil', walk_lst, walk_scr, walk_tup, walk_str, walk_ref, List.getElem?_cons_zero, List.getElem?_cons_succ, List.length_cons, List.length_nil, List.append_nil, List.cons_append, List.nil_append, Option.some.injEq, W.int.injEq, W.str.injEq, W.bl.injEq, W.tup.injEq, W.lst.injEq, W.ref.injEq, List.cons.injEq, Option.map_some, exists_and_left, exists_and_right, exists_eq_left, exists_eq_left', exists_eq, exists_eq', exists_eq_right, exists_eq_right', and_true, true_and, and_assoc, reduceIte, reduceCtorEq, decide_true, decide_false, decide_eq_true_eq, decide_eq_false_iff_not, Bool.not_eq_true', Bool.not_eq_false', Bool.true_eq_false, Bool.false_eq_true, if_true, if_false, Bool.not_true, Bool.not_false, ite_true, ite_false, Int.cast_ofNat_Int, Int.reduceAdd, Int.reduceSub, Int.reduceEq, Int.reduceLT, Int.reduceLE, Int.natCast_add, Nat.reduceEqDiff, Nat.reduceAdd, Nat.add_zero, Nat.zero_add, Nat.succ_ne_zero, not_true_eq_false, not_false_eq_true, Option.getD_some, Option.getD_none, nx, fx, fn_]
    simp only [Bd.ht] at hw hk
    refine ⟨by decide, ?_⟩
    refine use_words hb.1 (by omega) (by omega) ?_
    simp only [add_int]
    refine use_words hb.2 (by omega) (by omega) ?_
    simp only [add_int]
    simpa only [Bd.cnt, Int.natCast_add, Int.cast_ofNat_Int] using q
  | times a b =>
    simp only [Bd.ws] at hp ⊢
    simp only [eq_tup0 hp, f_words_in, f_is_number, g_MOST_WITHIN, g_MOST_WORDS, g_MOST_NUM, k_ARMS, dn, hw6, st_words_in_6, st_words_in_7, st_words_in_9, st_words_in_11, st_words_in_10, st_words_in_8, st_words_in_5, st_words_in_4, st_words_in_3, st_words_in_2, st_words_in_1, st_words_in, tl_times, ln_xx, sg_xx, dX, dXs, dXo, dXi, dSc, d2, d1, dN, dVar, dC, dTup, dLst, dTru, dB, dChain, dIte, dNotV, dNotT, dJoinV, dJoinT, dNil, dCons, dCall, dBM, dIsi, dIsi2, dAttr, dMeth, dNew, dDget, dDin, dDnew, dKidx, dKin, dKget, dDisp, dFrz, dSlice, dNoPart, dPart, dAsg, dExpr, dRet, dIf, dFld, dSet, dDput, dNever, dFor, dNext, binP, cmpP, iSeqD, iRg1, iRg2, iZip, iEnumD, Tg.asg, setAll, List.set, List.map_cons, List.map_nil, subW, modW, fdivW, powW, ltW, leW, gtW, geW, newL, finD, frzO, tupW, listW, oneW, twoW, BI.w, ints_eq, add_int, add_str, add_tup, add_lst, mul_int, mul_lst, idx_tup, idx_lst, idx_scr, idx_str, len_tup, len_lst, len_scr, len_str, sl_tup, sl_lst, neg_int, str_int, str_str, int_int, int_bl, is_non, is_int, is_str, is_tup, is_lst, is_bl, is_bb, eq_int, eq_str, eq_bl, ne_int, ne_str, ne_bl, eq_nilL, ty_non, ty_bl, ty_int, ty_str, ty_tup, ty_lst, ty_scr, ty_dk, Ty.sub, tr_bl, tr_non, tr_int, tr_str, sv_lst, sv_tup, sv_scr, lv_lst, at0, at1, at2, cut1, len0, ss_nil, for_nil, for_cons, pairs_cons, pairs_nil, pairs_nil', walk_lst, walk_scr, walk_tup, walk_str, walk_ref, List.getElem?_cons_zero, List.getElem?_cons_succ, List.length_cons, List.length_nil, List.append_nil, List.cons_append, List.nil_append, Option.some.injEq, W.int.injEq, W.str.injEq, W.bl.injEq, W.tup.injEq, W.lst.injEq, W.ref.injEq, List.cons.injEq, Option.map_some, exists_and_left, exists_and_right, exists_eq_left, exists_eq_left', exists_eq, exists_eq', exists_eq_right, exists_eq_right', and_true, true_and, and_assoc, reduceIte, reduceCtorEq, decide_true, decide_false, decide_eq_true_eq, decide_eq_false_iff_not, Bool.not_eq_true', Bool.not_eq_false', Bool.true_eq_false, Bool.false_eq_true, if_true, if_false, Bool.not_true, Bool.not_false, ite_true, ite_false, Int.cast_ofNat_Int, Int.reduceAdd, Int.reduceSub, Int.reduceEq, Int.reduceLT, Int.reduceLE, Int.natCast_add, Nat.reduceEqDiff, Nat.reduceAdd, Nat.add_zero, Nat.zero_add, Nat.succ_ne_zero, not_true_eq_false, not_false_eq_true, Option.getD_some, Option.getD_none, nx, fx, fn_]
    simp only [Bd.ht] at hw hk
    refine ⟨by decide, ?_⟩
    refine use_words hb.1 (by omega) (by omega) ?_
    simp only [add_int]
    refine use_words hb.2 (by omega) (by omega) ?_
    simp only [add_int]
    simpa only [Bd.cnt, Int.natCast_add, Int.cast_ofNat_Int] using q
  | iff a b c =>
    simp only [Bd.ws] at hp ⊢
    simp only [eq_tup0 hp, f_words_in, f_is_number, g_MOST_WITHIN, g_MOST_WORDS, g_MOST_NUM, k_ARMS, dn, hw6, st_words_in_6, st_words_in_7, st_words_in_9, st_words_in_11, st_words_in_10, st_words_in_8, st_words_in_5, st_words_in_4, st_words_in_3, st_words_in_2, st_words_in_1, st_words_in, tl_if, ln_xxx, sg_xxx, dX, dXs, dXo, dXi, dSc, d2, d1, dN, dVar, dC, dTup, dLst, dTru, dB, dChain, dIte, dNotV, dNotT, dJoinV, dJoinT, dNil, dCons, dCall, dBM, dIsi, dIsi2, dAttr, dMeth, dNew, dDget, dDin, dDnew, dKidx, dKin, dKget, dDisp, dFrz, dSlice, dNoPart, dPart, dAsg, dExpr, dRet, dIf, dFld, dSet, dDput, dNever, dFor, dNext, binP, cmpP, iSeqD, iRg1, iRg2, iZip, iEnumD, Tg.asg, setAll, List.set, List.map_cons, List.map_nil, subW, modW, fdivW, powW, ltW, leW, gtW, geW, newL, finD, frzO, tupW, listW, oneW, twoW, BI.w, ints_eq, add_int, add_str, add_tup, add_lst, mul_int, mul_lst, idx_tup, idx_lst, idx_scr, idx_str, len_tup, len_lst, len_scr, len_str, sl_tup, sl_lst, neg_int, str_int, str_str, int_int, int_bl, is_non, is_int, is_str, is_tup, is_lst, is_bl, is_bb, eq_int, eq_str, eq_bl, ne_int, ne_str, ne_bl, eq_nilL, ty_non, ty_bl, ty_int, ty_str, ty_tup, ty_lst, ty_scr, ty_dk, Ty.sub, tr_bl, tr_non, tr_int, tr_str, sv_lst, sv_tup, sv_scr, lv_lst, at0, at1, at2, cut1, len0, ss_nil, for_nil, for_cons, pairs_cons, pairs_nil, pairs_nil', walk_lst, walk_scr, walk_tup, walk_str, walk_ref, List.getElem?_cons_zero, List.getElem?_cons_succ, List.length_cons, List.length_nil, List.append_nil, List.cons_append, List.nil_append, Option.some.injEq, W.int.injEq, W.str.injEq, W.bl.injEq, W.tup.injEq, W.lst.injEq, W.ref.injEq, List.cons.injEq, Option.map_some, exists_and_left, exists_and_right, exists_eq_left, exists_eq_left', exists_eq, exists_eq', exists_eq_right, exists_eq_right', and_true, true_and, and_assoc, reduceIte, reduceCtorEq, decide_true, decide_false, decide_eq_true_eq, decide_eq_false_iff_not, Bool.not_eq_true', Bool.not_eq_false', Bool.true_eq_false, Bool.false_eq_true, if_true, if_false, Bool.not_true, Bool.not_false, ite_true, ite_false, Int.cast_ofNat_Int, Int.reduceAdd, Int.reduceSub, Int.reduceEq, Int.reduceLT, Int.reduceLE, Int.natCast_add, Nat.reduceEqDiff, Nat.reduceAdd, Nat.add_zero, Nat.zero_add, Nat.succ_ne_zero, not_true_eq_false, not_false_eq_true, Option.getD_some, Option.getD_none, nx, fx, fn_]
    simp only [Bd.ht] at hw hk
    refine ⟨by decide, ?_⟩
    refine use_words hb.1 (by omega) (by omega) ?_
    simp only [add_int]
    refine use_words hb.2.1 (by omega) (by omega) ?_
    simp only [add_int]
    refine use_words hb.2.2 (by omega) (by omega) ?_
    simp only [add_int]
    simpa only [Bd.cnt, Int.natCast_add, Int.cast_ofNat_Int] using q
  | thn a b =>
    simp only [Bd.ws] at hp ⊢
    simp only [eq_tup0 hp, f_words_in, f_is_number, g_MOST_WITHIN, g_MOST_WORDS, g_MOST_NUM, k_ARMS, dn, hw6, st_words_in_6, st_words_in_7, st_words_in_9, st_words_in_11, st_words_in_10, st_words_in_8, st_words_in_5, st_words_in_4, st_words_in_3, st_words_in_2, st_words_in_1, st_words_in, tl_then, ln_xx, sg_xx, dX, dXs, dXo, dXi, dSc, d2, d1, dN, dVar, dC, dTup, dLst, dTru, dB, dChain, dIte, dNotV, dNotT, dJoinV, dJoinT, dNil, dCons, dCall, dBM, dIsi, dIsi2, dAttr, dMeth, dNew, dDget, dDin, dDnew, dKidx, dKin, dKget, dDisp, dFrz, dSlice, dNoPart, dPart, dAsg, dExpr, dRet, dIf, dFld, dSet, dDput, dNever, dFor, dNext, binP, cmpP, iSeqD, iRg1, iRg2, iZip, iEnumD, Tg.asg, setAll, List.set, List.map_cons, List.map_nil, subW, modW, fdivW, powW, ltW, leW, gtW, geW, newL, finD, frzO, tupW, listW, oneW, twoW, BI.w, ints_eq, add_int, add_str, add_tup, add_lst, mul_int, mul_lst, idx_tup, idx_lst, idx_scr, idx_str, len_tup, len_lst, len_scr, len_str, sl_tup, sl_lst, neg_int, str_int, str_str, int_int, int_bl, is_non, is_int, is_str, is_tup, is_lst, is_bl, is_bb, eq_int, eq_str, eq_bl, ne_int, ne_str, ne_bl, eq_nilL, ty_non, ty_bl, ty_int, ty_str, ty_tup, ty_lst, ty_scr, ty_dk, Ty.sub, tr_bl, tr_non, tr_int, tr_str, sv_lst, sv_tup, sv_scr, lv_lst, at0, at1, at2, cut1, len0, ss_nil, for_nil, for_cons, pairs_cons, pairs_nil, pairs_nil', walk_lst, walk_scr, walk_tup, walk_str, walk_ref, List.getElem?_cons_zero, List.getElem?_cons_succ, List.length_cons, List.length_nil, List.append_nil, List.cons_append, List.nil_append, Option.some.injEq, W.int.injEq, W.str.injEq, W.bl.injEq, W.tup.injEq, W.lst.injEq, W.ref.injEq, List.cons.injEq, Option.map_some, exists_and_left, exists_and_right, exists_eq_left, exists_eq_left', exists_eq, exists_eq', exists_eq_right, exists_eq_right', and_true, true_and, and_assoc, reduceIte, reduceCtorEq, decide_true, decide_false, decide_eq_true_eq, decide_eq_false_iff_not, Bool.not_eq_true', Bool.not_eq_false', Bool.true_eq_false, Bool.false_eq_true, if_true, if_false, Bool.not_true, Bool.not_false, ite_true, ite_false, Int.cast_ofNat_Int, Int.reduceAdd, Int.reduceSub, Int.reduceEq, Int.reduceLT, Int.reduceLE, Int.natCast_add, Nat.reduceEqDiff, Nat.reduceAdd, Nat.add_zero, Nat.zero_add, Nat.succ_ne_zero, not_true_eq_false, not_false_eq_true, Option.getD_some, Option.getD_none, nx, fx, fn_]
    simp only [Bd.ht] at hw hk
    refine ⟨by decide, ?_⟩
    refine use_words hb.1 (by omega) (by omega) ?_
    simp only [add_int]
    refine use_words hb.2 (by omega) (by omega) ?_
    simp only [add_int]
    simpa only [Bd.cnt, Int.natCast_add, Int.cast_ofNat_Int] using q
  | say a =>
    simp only [Bd.ws] at hp ⊢
    simp only [eq_tup0 hp, f_words_in, f_is_number, g_MOST_WITHIN, g_MOST_WORDS, g_MOST_NUM, k_ARMS, dn, hw6, st_words_in_6, st_words_in_7, st_words_in_9, st_words_in_11, st_words_in_10, st_words_in_8, st_words_in_5, st_words_in_4, st_words_in_3, st_words_in_2, st_words_in_1, st_words_in, tl_say, ln_x, sg_x, dX, dXs, dXo, dXi, dSc, d2, d1, dN, dVar, dC, dTup, dLst, dTru, dB, dChain, dIte, dNotV, dNotT, dJoinV, dJoinT, dNil, dCons, dCall, dBM, dIsi, dIsi2, dAttr, dMeth, dNew, dDget, dDin, dDnew, dKidx, dKin, dKget, dDisp, dFrz, dSlice, dNoPart, dPart, dAsg, dExpr, dRet, dIf, dFld, dSet, dDput, dNever, dFor, dNext, binP, cmpP, iSeqD, iRg1, iRg2, iZip, iEnumD, Tg.asg, setAll, List.set, List.map_cons, List.map_nil, subW, modW, fdivW, powW, ltW, leW, gtW, geW, newL, finD, frzO, tupW, listW, oneW, twoW, BI.w, ints_eq, add_int, add_str, add_tup, add_lst, mul_int, mul_lst, idx_tup, idx_lst, idx_scr, idx_str, len_tup, len_lst, len_scr, len_str, sl_tup, sl_lst, neg_int, str_int, str_str, int_int, int_bl, is_non, is_int, is_str, is_tup, is_lst, is_bl, is_bb, eq_int, eq_str, eq_bl, ne_int, ne_str, ne_bl, eq_nilL, ty_non, ty_bl, ty_int, ty_str, ty_tup, ty_lst, ty_scr, ty_dk, Ty.sub, tr_bl, tr_non, tr_int, tr_str, sv_lst, sv_tup, sv_scr, lv_lst, at0, at1, at2, cut1, len0, ss_nil, for_nil, for_cons, pairs_cons, pairs_nil, pairs_nil', walk_lst, walk_scr, walk_tup, walk_str, walk_ref, List.getElem?_cons_zero, List.getElem?_cons_succ, List.length_cons, List.length_nil, List.append_nil, List.cons_append, List.nil_append, Option.some.injEq, W.int.injEq, W.str.injEq, W.bl.injEq, W.tup.injEq, W.lst.injEq, W.ref.injEq, List.cons.injEq, Option.map_some, exists_and_left, exists_and_right, exists_eq_left, exists_eq_left', exists_eq, exists_eq', exists_eq_right, exists_eq_right', and_true, true_and, and_assoc, reduceIte, reduceCtorEq, decide_true, decide_false, decide_eq_true_eq, decide_eq_false_iff_not, Bool.not_eq_true', Bool.not_eq_false', Bool.true_eq_false, Bool.false_eq_true, if_true, if_false, Bool.not_true, Bool.not_false, ite_true, ite_false, Int.cast_ofNat_Int, Int.reduceAdd, Int.reduceSub, Int.reduceEq, Int.reduceLT, Int.reduceLE, Int.natCast_add, Nat.reduceEqDiff, Nat.reduceAdd, Nat.add_zero, Nat.zero_add, Nat.succ_ne_zero, not_true_eq_false, not_false_eq_true, Option.getD_some, Option.getD_none, nx, fx, fn_]
    simp only [Bd.ht] at hw hk
    refine ⟨by decide, ?_⟩
    refine use_words hb (by omega) (by omega) ?_
    simp only [add_int]
    simpa only [Bd.cnt, Int.natCast_add, Int.cast_ofNat_Int] using q
  | call f a =>
    simp only [Bd.ws] at hp ⊢
    simp only [eq_tup0 hp, f_words_in, f_is_number, g_MOST_WITHIN, g_MOST_WORDS, g_MOST_NUM, k_ARMS, dn, hw6, st_words_in_6, st_words_in_7, st_words_in_9, st_words_in_11, st_words_in_10, st_words_in_8, st_words_in_5, st_words_in_4, st_words_in_3, st_words_in_2, st_words_in_1, st_words_in, tl_call, ln_fx, sg_fx, dX, dXs, dXo, dXi, dSc, d2, d1, dN, dVar, dC, dTup, dLst, dTru, dB, dChain, dIte, dNotV, dNotT, dJoinV, dJoinT, dNil, dCons, dCall, dBM, dIsi, dIsi2, dAttr, dMeth, dNew, dDget, dDin, dDnew, dKidx, dKin, dKget, dDisp, dFrz, dSlice, dNoPart, dPart, dAsg, dExpr, dRet, dIf, dFld, dSet, dDput, dNever, dFor, dNext, binP, cmpP, iSeqD, iRg1, iRg2, iZip, iEnumD, Tg.asg, setAll, List.set, List.map_cons, List.map_nil, subW, modW, fdivW, powW, ltW, leW, gtW, geW, newL, finD, frzO, tupW, listW, oneW, twoW, BI.w, ints_eq, add_int, add_str, add_tup, add_lst, mul_int, mul_lst, idx_tup, idx_lst, idx_scr, idx_str, len_tup, len_lst, len_scr, len_str, sl_tup, sl_lst, neg_int, str_int, str_str, int_int, int_bl, is_non, is_int, is_str, is_tup, is_lst, is_bl, is_bb, eq_int, eq_str, eq_bl, ne_int, ne_str, ne_bl, eq_nilL, ty_non, ty_bl, ty_int, ty_str, ty_tup, ty_lst, ty_scr, ty_dk, Ty.sub, tr_bl, tr_non, tr_int, tr_str, sv_lst, sv_tup, sv_scr, lv_lst, at0, at1, at2, cut1, len0, ss_nil, for_nil, for_cons, pairs_cons, pairs_nil, pairs_nil', walk_lst, walk_scr, walk_tup, walk_str, walk_ref, List.getElem?_cons_zero, List.getElem?_cons_succ, List.length_cons, List.length_nil, List.append_nil, List.cons_append, List.nil_append, Option.some.injEq, W.int.injEq, W.str.injEq, W.bl.injEq, W.tup.injEq, W.lst.injEq, W.ref.injEq, List.cons.injEq, Option.map_some, exists_and_left, exists_and_right, exists_eq_left, exists_eq_left', exists_eq, exists_eq', exists_eq_right, exists_eq_right', and_true, true_and, and_assoc, reduceIte, reduceCtorEq, decide_true, decide_false, decide_eq_true_eq, decide_eq_false_iff_not, Bool.not_eq_true', Bool.not_eq_false', Bool.true_eq_false, Bool.false_eq_true, if_true, if_false, Bool.not_true, Bool.not_false, ite_true, ite_false, Int.cast_ofNat_Int, Int.reduceAdd, Int.reduceSub, Int.reduceEq, Int.reduceLT, Int.reduceLE, Int.natCast_add, Nat.reduceEqDiff, Nat.reduceAdd, Nat.add_zero, Nat.zero_add, Nat.succ_ne_zero, not_true_eq_false, not_false_eq_true, Option.getD_some, Option.getD_none, nx, fx, fn_]
    simp only [Bd.ht] at hw hk
    refine ⟨by decide, ?_⟩
    refine use_num (by omega) (by have := hb.1; omega) ?_
    simp only [dX, dXs, dXo, dXi, dSc, d2, d1, dN, dVar, dC, dTup, dLst, dTru, dB, dChain, dIte, dNotV, dNotT, dJoinV, dJoinT, dNil, dCons, dCall, dBM, dIsi, dIsi2, dAttr, dMeth, dNew, dDget, dDin, dDnew, dKidx, dKin, dKget, dDisp, dFrz, dSlice, dNoPart, dPart, dAsg, dExpr, dRet, dIf, dFld, dSet, dDput, dNever, dFor, dNext, binP, cmpP, iSeqD, iRg1, iRg2, iZip, iEnumD, Tg.asg, setAll, List.set, List.map_cons, List.map_nil, subW, modW, fdivW, powW, ltW, leW, gtW, geW, newL, finD, frzO, tupW, listW, oneW, twoW, BI.w, ints_eq, add_int, add_str, add_tup, add_lst, mul_int, mul_lst, idx_tup, idx_lst, idx_scr, idx_str, len_tup, len_lst, len_scr, len_str, sl_tup, sl_lst, neg_int, str_int, str_str, int_int, int_bl, is_non, is_int, is_str, is_tup, is_lst, is_bl, is_bb, eq_int, eq_str, eq_bl, ne_int, ne_str, ne_bl, eq_nilL, ty_non, ty_bl, ty_int, ty_str, ty_tup, ty_lst, ty_scr, ty_dk, Ty.sub, tr_bl, tr_non, tr_int, tr_str, sv_lst, sv_tup, sv_scr, lv_lst, at0, at1, at2, cut1, len0, ss_nil, for_nil, for_cons, pairs_cons, pairs_nil, pairs_nil', walk_lst, walk_scr, walk_tup, walk_str, walk_ref, List.getElem?_cons_zero, List.getElem?_cons_succ, List.length_cons, List.length_nil, List.append_nil, List.cons_append, List.nil_append, Option.some.injEq, W.int.injEq, W.str.injEq, W.bl.injEq, W.tup.injEq, W.lst.injEq, W.ref.injEq, List.cons.injEq, Option.map_some, exists_and_left, exists_and_right, exists_eq_left, exists_eq_left', exists_eq, exists_eq', exists_eq_right, exists_eq_right', and_true, true_and, and_assoc, reduceIte, reduceCtorEq, decide_true, decide_false, decide_eq_true_eq, decide_eq_false_iff_not, Bool.not_eq_true', Bool.not_eq_false', Bool.true_eq_false, Bool.false_eq_true, if_true, if_false, Bool.not_true, Bool.not_false, ite_true, ite_false, Int.cast_ofNat_Int, Int.reduceAdd, Int.reduceSub, Int.reduceEq, Int.reduceLT, Int.reduceLE, Int.natCast_add, Nat.reduceEqDiff, Nat.reduceAdd, Nat.add_zero, Nat.zero_add, Nat.succ_ne_zero, not_true_eq_false, not_false_eq_true, Option.getD_some, Option.getD_none]
    refine use_words hb.2 (by omega) (by omega) ?_
    simp only [add_int]
    simpa only [Bd.cnt, Int.natCast_add, Int.cast_ofNat_Int] using q
  | thr a b =>
    simp only [Bd.ws] at hp ⊢
    simp only [eq_tup0 hp, f_words_in, f_is_number, g_MOST_WITHIN, g_MOST_WORDS, g_MOST_NUM, k_ARMS, dn, hw6, st_words_in_6, st_words_in_7, st_words_in_9, st_words_in_11, st_words_in_10, st_words_in_8, st_words_in_5, st_words_in_4, st_words_in_3, st_words_in_2, st_words_in_1, st_words_in, tl_through, ln_xx, sg_xx, dX, dXs, dXo, dXi, dSc, d2, d1, dN, dVar, dC, dTup, dLst, dTru, dB, dChain, dIte, dNotV, dNotT, dJoinV, dJoinT, dNil, dCons, dCall, dBM, dIsi, dIsi2, dAttr, dMeth, dNew, dDget, dDin, dDnew, dKidx, dKin, dKget, dDisp, dFrz, dSlice, dNoPart, dPart, dAsg, dExpr, dRet, dIf, dFld, dSet, dDput, dNever, dFor, dNext, binP, cmpP, iSeqD, iRg1, iRg2, iZip, iEnumD, Tg.asg, setAll, List.set, List.map_cons, List.map_nil, subW, modW, fdivW, powW, ltW, leW, gtW, geW, newL, finD, frzO, tupW, listW, oneW, twoW, BI.w, ints_eq, add_int, add_str, add_tup, add_lst, mul_int, mul_lst, idx_tup, idx_lst, idx_scr, idx_str, len_tup, len_lst, len_scr, len_str, sl_tup, sl_lst, neg_int, str_int, str_str, int_int, int_bl, is_non, is_int, is_str, is_tup, is_lst, is_bl, is_bb, eq_int, eq_str, eq_bl, ne_int, ne_str, ne_bl, eq_nilL, ty_non, ty_bl, ty_int, ty_str, ty_tup, ty_lst, ty_scr, ty_dk, Ty.sub, tr_bl, tr_non, tr_int, tr_str, sv_lst, sv_tup, sv_scr, lv_lst, at0, at1, at2, cut1, len0, ss_nil, for_nil, for_cons, pairs_cons, pairs_nil, pairs_nil', walk_lst, walk_scr, walk_tup, walk_str, walk_ref, List.getElem?_cons_zero, List.getElem?_cons_succ, List.length_cons, List.length_nil, List.append_nil, List.cons_append, List.nil_append, Option.some.injEq, W.int.injEq, W.str.injEq, W.bl.injEq, W.tup.injEq, W.lst.injEq, W.ref.injEq, List.cons.injEq, Option.map_some, exists_and_left, exists_and_right, exists_eq_left, exists_eq_left', exists_eq, exists_eq', exists_eq_right, exists_eq_right', and_true, true_and, and_assoc, reduceIte, reduceCtorEq, decide_true, decide_false, decide_eq_true_eq, decide_eq_false_iff_not, Bool.not_eq_true', Bool.not_eq_false', Bool.true_eq_false, Bool.false_eq_true, if_true, if_false, Bool.not_true, Bool.not_false, ite_true, ite_false, Int.cast_ofNat_Int, Int.reduceAdd, Int.reduceSub, Int.reduceEq, Int.reduceLT, Int.reduceLE, Int.natCast_add, Nat.reduceEqDiff, Nat.reduceAdd, Nat.add_zero, Nat.zero_add, Nat.succ_ne_zero, not_true_eq_false, not_false_eq_true, Option.getD_some, Option.getD_none, nx, fx, fn_]
    simp only [Bd.ht] at hw hk
    refine ⟨by decide, ?_⟩
    refine use_words hb.1 (by omega) (by omega) ?_
    simp only [add_int]
    refine use_words hb.2 (by omega) (by omega) ?_
    simp only [add_int]
    simpa only [Bd.cnt, Int.natCast_add, Int.cast_ofNat_Int] using q
def encF (f : Nat × Bd) : W := .tup [.int f.1, f.2.enc]
def encP (p : List (Nat × Bd)) : W := .tup (p.map encF)
structure FOk (m : Nat) (f : Nat × Bd) : Prop where
  s1 : 1 ≤ f.1
  s8 : f.1 ≤ 8
  ok : f.2.ok m
  ht : f.2.ht ≤ 6
  cnt : f.2.cnt ≤ 40
structure PrOk (p : List (Nat × Bd)) : Prop where
  l1 : 1 ≤ p.length
  l8 : p.length ≤ 8
  ok : ∀ f ∈ p, FOk p.length f
def sp_is_function : Nat → Wp := fun k ws M Q _ => ∃ (f : Nat × Bd) (m : Nat), ws = [encF f, .int m] ∧ FOk m f ∧ 8 ≤ k ∧ Q (.bl true) M
theorem keep_is_function {Γ : Gam} {k : Nat} (f_words_in : Γ.fn 1 = dn sp_words_in k) (f_is_number : Γ.fn 0 = dn sp_is_number k) (g_MOST_WORDS : Γ.gl 10 = .int 40) (g_MOST_SIZE : Γ.gl 8 = .int 8) : KeepC Γ n_is_function 2 c_is_function (sp_is_function k) := by
  rintro ws M Q Ex ⟨⟨s, b⟩, m, rfl, ok, hk, q⟩
  refine ⟨rfl, ?_⟩
  obtain ⟨h1, h2, h3, h4, h5⟩ := ok
  dsimp only at h1 h2 h3 h4 h5
  show dSs Γ _ _ [some (encF (s, b)), some (.int m)] M
  cases k with
  | zero => omega
  | succ k =>
  simp only [encF, f_words_in, f_is_number, g_MOST_WORDS, g_MOST_SIZE, dn, st_is_function_2, st_is_function_1, st_is_function, dX, dXs, dXo, dXi, dSc, d2, d1, dN, dVar, dC, dTup, dLst, dTru, dB, dChain, dIte, dNotV, dNotT, dJoinV, dJoinT, dNil, dCons, dCall, dBM, dIsi, dIsi2, dAttr, dMeth, dNew, dDget, dDin, dDnew, dKidx, dKin, dKget, dDisp, dFrz, dSlice, dNoPart, dPart, dAsg, dExpr, dRet, dIf, dFld, dSet, dDput, dNever, dFor, dNext, binP, cmpP, iSeqD, iRg1, iRg2, iZip, iEnumD, Tg.asg, setAll, List.set, List.map_cons, List.map_nil, subW, modW, fdivW, powW, ltW, leW, gtW, geW, newL, finD, frzO, tupW, listW, oneW, twoW, BI.w, ints_eq, add_int, add_str, add_tup, add_lst, mul_int, mul_lst, idx_tup, idx_lst, idx_scr, idx_str, len_tup, len_lst, len_scr, len_str, sl_tup, sl_lst, neg_int, str_int, str_str, int_int, int_bl, is_non, is_int, is_str, is_tup, is_lst, is_bl, is_bb, eq_int, eq_str, eq_bl, ne_int, ne_str, ne_bl, eq_nilL, ty_non, ty_bl, ty_int, ty_str, ty_tup, ty_lst, ty_scr, ty_dk, Ty.sub, tr_bl, tr_non, tr_int, tr_str, sv_lst, sv_tup, sv_scr, lv_lst, at0, at1, at2, cut1, len0, ss_nil, for_nil, for_cons, pairs_cons, pairs_nil, pairs_nil', walk_lst, walk_scr, walk_tup, walk_str, walk_ref, List.getElem?_cons_zero, List.getElem?_cons_succ, List.length_cons, List.length_nil, List.append_nil, List.cons_append, List.nil_append, Option.some.injEq, W.int.injEq, W.str.injEq, W.bl.injEq, W.tup.injEq, W.lst.injEq, W.ref.injEq, List.cons.injEq, Option.map_some, exists_and_left, exists_and_right, exists_eq_left, exists_eq_left', exists_eq, exists_eq', exists_eq_right, exists_eq_right', and_true, true_and, and_assoc, reduceIte, reduceCtorEq, decide_true, decide_false, decide_eq_true_eq, decide_eq_false_iff_not, Bool.not_eq_true', Bool.not_eq_false', Bool.true_eq_false, Bool.false_eq_true, if_true, if_false, Bool.not_true, Bool.not_false, ite_true, ite_false, Int.cast_ofNat_Int, Int.reduceAdd, Int.reduceSub, Int.reduceEq, Int.reduceLT, Int.reduceLE, Int.natCast_add, Nat.reduceEqDiff, Nat.reduceAdd, Nat.add_zero, Nat.zero_add, Nat.succ_ne_zero, not_true_eq_false, not_false_eq_true, Option.getD_some, Option.getD_none]
  refine use_num (by omega) (by omega) ?_
  simp only [dX, dXs, dXo, dXi, dSc, d2, d1, dN, dVar, dC, dTup, dLst, dTru, dB, dChain, dIte, dNotV, dNotT, dJoinV, dJoinT, dNil, dCons, dCall, dBM, dIsi, dIsi2, dAttr, dMeth, dNew, dDget, dDin, dDnew, dKidx, dKin, dKget, dDisp, dFrz, dSlice, dNoPart, dPart, dAsg, dExpr, dRet, dIf, dFld, dSet, dDput, dNever, dFor, dNext, binP, cmpP, iSeqD, iRg1, iRg2, iZip, iEnumD, Tg.asg, setAll, List.set, List.map_cons, List.map_nil, subW, modW, fdivW, powW, ltW, leW, gtW, geW, newL, finD, frzO, tupW, listW, oneW, twoW, BI.w, ints_eq, add_int, add_str, add_tup, add_lst, mul_int, mul_lst, idx_tup, idx_lst, idx_scr, idx_str, len_tup, len_lst, len_scr, len_str, sl_tup, sl_lst, neg_int, str_int, str_str, int_int, int_bl, is_non, is_int, is_str, is_tup, is_lst, is_bl, is_bb, eq_int, eq_str, eq_bl, ne_int, ne_str, ne_bl, eq_nilL, ty_non, ty_bl, ty_int, ty_str, ty_tup, ty_lst, ty_scr, ty_dk, Ty.sub, tr_bl, tr_non, tr_int, tr_str, sv_lst, sv_tup, sv_scr, lv_lst, at0, at1, at2, cut1, len0, ss_nil, for_nil, for_cons, pairs_cons, pairs_nil, pairs_nil', walk_lst, walk_scr, walk_tup, walk_str, walk_ref, List.getElem?_cons_zero, List.getElem?_cons_succ, List.length_cons, List.length_nil, List.append_nil, List.cons_append, List.nil_append, Option.some.injEq, W.int.injEq, W.str.injEq, W.bl.injEq, W.tup.injEq, W.lst.injEq, W.ref.injEq, List.cons.injEq, Option.map_some, exists_and_left, exists_and_right, exists_eq_left, exists_eq_left', exists_eq, exists_eq', exists_eq_right, exists_eq_right', and_true, true_and, and_assoc, reduceIte, reduceCtorEq, decide_true, decide_false, decide_eq_true_eq, decide_eq_false_iff_not, Bool.not_eq_true', Bool.not_eq_false', Bool.true_eq_false, Bool.false_eq_true, if_true, if_false, Bool.not_true, Bool.not_false, ite_true, ite_false, Int.cast_ofNat_Int, Int.reduceAdd, Int.reduceSub, Int.reduceEq, Int.reduceLT, Int.reduceLE, Int.natCast_add, Nat.reduceEqDiff, Nat.reduceAdd, Nat.add_zero, Nat.zero_add, Nat.succ_ne_zero, not_true_eq_false, not_false_eq_true, Option.getD_some, Option.getD_none]
  refine ⟨b, m, 0, rfl, h3, by omega, by omega, ?_⟩
  simp only [dX, dXs, dXo, dXi, dSc, d2, d1, dN, dVar, dC, dTup, dLst, dTru, dB, dChain, dIte, dNotV, dNotT, dJoinV, dJoinT, dNil, dCons, dCall, dBM, dIsi, dIsi2, dAttr, dMeth, dNew, dDget, dDin, dDnew, dKidx, dKin, dKget, dDisp, dFrz, dSlice, dNoPart, dPart, dAsg, dExpr, dRet, dIf, dFld, dSet, dDput, dNever, dFor, dNext, binP, cmpP, iSeqD, iRg1, iRg2, iZip, iEnumD, Tg.asg, setAll, List.set, List.map_cons, List.map_nil, subW, modW, fdivW, powW, ltW, leW, gtW, geW, newL, finD, frzO, tupW, listW, oneW, twoW, BI.w, ints_eq, add_int, add_str, add_tup, add_lst, mul_int, mul_lst, idx_tup, idx_lst, idx_scr, idx_str, len_tup, len_lst, len_scr, len_str, sl_tup, sl_lst, neg_int, str_int, str_str, int_int, int_bl, is_non, is_int, is_str, is_tup, is_lst, is_bl, is_bb, eq_int, eq_str, eq_bl, ne_int, ne_str, ne_bl, eq_nilL, ty_non, ty_bl, ty_int, ty_str, ty_tup, ty_lst, ty_scr, ty_dk, Ty.sub, tr_bl, tr_non, tr_int, tr_str, sv_lst, sv_tup, sv_scr, lv_lst, at0, at1, at2, cut1, len0, ss_nil, for_nil, for_cons, pairs_cons, pairs_nil, pairs_nil', walk_lst, walk_scr, walk_tup, walk_str, walk_ref, List.getElem?_cons_zero, List.getElem?_cons_succ, List.length_cons, List.length_nil, List.append_nil, List.cons_append, List.nil_append, Option.some.injEq, W.int.injEq, W.str.injEq, W.bl.injEq, W.tup.injEq, W.lst.injEq, W.ref.injEq, List.cons.injEq, Option.map_some, exists_and_left, exists_and_right, exists_eq_left, exists_eq_left', exists_eq, exists_eq', exists_eq_right, exists_eq_right', and_true, true_and, and_assoc, reduceIte, reduceCtorEq, decide_true, decide_false, decide_eq_true_eq, decide_eq_false_iff_not, Bool.not_eq_true', Bool.not_eq_false', Bool.true_eq_false, Bool.false_eq_true, if_true, if_false, Bool.not_true, Bool.not_false, ite_true, ite_false, Int.cast_ofNat_Int, Int.reduceAdd, Int.reduceSub, Int.reduceEq, Int.reduceLT, Int.reduceLE, Int.natCast_add, Nat.reduceEqDiff, Nat.reduceAdd, Nat.add_zero, Nat.zero_add, Nat.succ_ne_zero, not_true_eq_false, not_false_eq_true, Option.getD_some, Option.getD_none]
  rw [decide_eq_true (by omega : (b.cnt : Int) ≤ 40)]
  exact q
def sp_need_program : Nat → Wp := fun k ws M Q _ => ∃ (p : List (Nat × Bd)), ws = [encP p] ∧ PrOk p ∧ 9 ≤ k ∧ Q .non M
theorem keep_need_program {Γ : Gam} {k : Nat} (f_is_function : Γ.fn 2 = dn sp_is_function k) (g_MOST_FUNCTIONS : Γ.gl 5 = .int 8) : KeepC Γ n_need_program 1 c_need_program (sp_need_program k) := by
  rintro ws M Q Ex ⟨p, rfl, ok, hk, q⟩
  refine ⟨rfl, ?_⟩
  show dSs Γ _ _ [some (encP p), none] M
  cases k with
  | zero => omega
  | succ k =>
  have h8 := ok.l8
  have h1 := ok.l1
  have hz : ¬ ((p.length : Int) = 0) := by omega
  simp only [encP, st_need_program, st_need_program_1, dX, dXs, dXo, dXi, dSc, d2, d1, dN, dVar, dC, dTup, dLst, dTru, dB, dChain, dIte, dNotV, dNotT, dJoinV, dJoinT, dNil, dCons, dCall, dBM, dIsi, dIsi2, dAttr, dMeth, dNew, dDget, dDin, dDnew, dKidx, dKin, dKget, dDisp, dFrz, dSlice, dNoPart, dPart, dAsg, dExpr, dRet, dIf, dFld, dSet, dDput, dNever, dFor, dNext, binP, cmpP, iSeqD, iRg1, iRg2, iZip, iEnumD, Tg.asg, setAll, List.set, List.map_cons, List.map_nil, subW, modW, fdivW, powW, ltW, leW, gtW, geW, newL, finD, frzO, tupW, listW, oneW, twoW, BI.w, ints_eq, add_int, add_str, add_tup, add_lst, mul_int, mul_lst, idx_tup, idx_lst, idx_scr, idx_str, len_tup, len_lst, len_scr, len_str, sl_tup, sl_lst, neg_int, str_int, str_str, int_int, int_bl, is_non, is_int, is_str, is_tup, is_lst, is_bl, is_bb, eq_int, eq_str, eq_bl, ne_int, ne_str, ne_bl, eq_nilL, ty_non, ty_bl, ty_int, ty_str, ty_tup, ty_lst, ty_scr, ty_dk, Ty.sub, tr_bl, tr_non, tr_int, tr_str, sv_lst, sv_tup, sv_scr, lv_lst, at0, at1, at2, cut1, len0, ss_nil, for_nil, for_cons, pairs_cons, pairs_nil, pairs_nil', walk_lst, walk_scr, walk_tup, walk_str, walk_ref, List.getElem?_cons_zero, List.getElem?_cons_succ, List.length_cons, List.length_nil, List.append_nil, List.cons_append, List.nil_append, Option.some.injEq, W.int.injEq, W.str.injEq, W.bl.injEq, W.tup.injEq, W.lst.injEq, W.ref.injEq, List.cons.injEq, Option.map_some, exists_and_left, exists_and_right, exists_eq_left, exists_eq_left', exists_eq, exists_eq', exists_eq_right, exists_eq_right', and_true, true_and, and_assoc, reduceIte, reduceCtorEq, decide_true, decide_false, decide_eq_true_eq, decide_eq_false_iff_not, Bool.not_eq_true', Bool.not_eq_false', Bool.true_eq_false, Bool.false_eq_true, if_true, if_false, Bool.not_true, Bool.not_false, ite_true, ite_false, Int.cast_ofNat_Int, Int.reduceAdd, Int.reduceSub, Int.reduceEq, Int.reduceLT, Int.reduceLE, Int.natCast_add, Nat.reduceEqDiff, Nat.reduceAdd, Nat.add_zero, Nat.zero_add, Nat.succ_ne_zero, not_true_eq_false, not_false_eq_true, Option.getD_some, Option.getD_none, List.length_map, hz]
  refine ⟨by omega, by omega, ?_⟩
  refine for_range (fun _ σ M' => (∃ x, σ = [some (.tup (p.map encF)), x]) ∧ M' = M) ?_ (fun i σ M' K hi h hK => ?_) (fun σ M' h => ?_)
  · exact ⟨⟨_, rfl⟩, rfl⟩
  · obtain ⟨⟨x, rfl⟩, rfl⟩ := h
    have hi8 : ¬ ((8 : Int) ≤ (i : Int)) := by omega
    have hgi : p[i]? = some p[i] := List.getElem?_eq_getElem hi
    have hm : (p.map encF)[i]? = some (encF p[i]) := by rw [List.getElem?_map, hgi]; rfl
    simp only [st_need_program_3, f_is_function, g_MOST_FUNCTIONS, dn, dX, dXs, dXo, dXi, dSc, d2, d1, dN, dVar, dC, dTup, dLst, dTru, dB, dChain, dIte, dNotV, dNotT, dJoinV, dJoinT, dNil, dCons, dCall, dBM, dIsi, dIsi2, dAttr, dMeth, dNew, dDget, dDin, dDnew, dKidx, dKin, dKget, dDisp, dFrz, dSlice, dNoPart, dPart, dAsg, dExpr, dRet, dIf, dFld, dSet, dDput, dNever, dFor, dNext, binP, cmpP, iSeqD, iRg1, iRg2, iZip, iEnumD, Tg.asg, setAll, List.set, List.map_cons, List.map_nil, subW, modW, fdivW, powW, ltW, leW, gtW, geW, newL, finD, frzO, tupW, listW, oneW, twoW, BI.w, ints_eq, add_int, add_str, add_tup, add_lst, mul_int, mul_lst, idx_tup, idx_lst, idx_scr, idx_str, len_tup, len_lst, len_scr, len_str, sl_tup, sl_lst, neg_int, str_int, str_str, int_int, int_bl, is_non, is_int, is_str, is_tup, is_lst, is_bl, is_bb, eq_int, eq_str, eq_bl, ne_int, ne_str, ne_bl, eq_nilL, ty_non, ty_bl, ty_int, ty_str, ty_tup, ty_lst, ty_scr, ty_dk, Ty.sub, tr_bl, tr_non, tr_int, tr_str, sv_lst, sv_tup, sv_scr, lv_lst, at0, at1, at2, cut1, len0, ss_nil, for_nil, for_cons, pairs_cons, pairs_nil, pairs_nil', walk_lst, walk_scr, walk_tup, walk_str, walk_ref, List.getElem?_cons_zero, List.getElem?_cons_succ, List.length_cons, List.length_nil, List.append_nil, List.cons_append, List.nil_append, Option.some.injEq, W.int.injEq, W.str.injEq, W.bl.injEq, W.tup.injEq, W.lst.injEq, W.ref.injEq, List.cons.injEq, Option.map_some, exists_and_left, exists_and_right, exists_eq_left, exists_eq_left', exists_eq, exists_eq', exists_eq_right, exists_eq_right', and_true, true_and, and_assoc, reduceIte, reduceCtorEq, decide_true, decide_false, decide_eq_true_eq, decide_eq_false_iff_not, Bool.not_eq_true', Bool.not_eq_false', Bool.true_eq_false, Bool.false_eq_true, if_true, if_false, Bool.not_true, Bool.not_false, ite_true, ite_false, Int.cast_ofNat_Int, Int.reduceAdd, Int.reduceSub, Int.reduceEq, Int.reduceLT, Int.reduceLE, Int.natCast_add, Nat.reduceEqDiff, Nat.reduceAdd, Nat.add_zero, Nat.zero_add, Nat.succ_ne_zero, not_true_eq_false, not_false_eq_true, Option.getD_some, Option.getD_none, hi8, atN hm, List.length_map]
    refine ⟨p[i], p.length, rfl, ok.ok _ (List.getElem_mem hi), by omega, ?_⟩
    simp only [dX, dXs, dXo, dXi, dSc, d2, d1, dN, dVar, dC, dTup, dLst, dTru, dB, dChain, dIte, dNotV, dNotT, dJoinV, dJoinT, dNil, dCons, dCall, dBM, dIsi, dIsi2, dAttr, dMeth, dNew, dDget, dDin, dDnew, dKidx, dKin, dKget, dDisp, dFrz, dSlice, dNoPart, dPart, dAsg, dExpr, dRet, dIf, dFld, dSet, dDput, dNever, dFor, dNext, binP, cmpP, iSeqD, iRg1, iRg2, iZip, iEnumD, Tg.asg, setAll, List.set, List.map_cons, List.map_nil, subW, modW, fdivW, powW, ltW, leW, gtW, geW, newL, finD, frzO, tupW, listW, oneW, twoW, BI.w, ints_eq, add_int, add_str, add_tup, add_lst, mul_int, mul_lst, idx_tup, idx_lst, idx_scr, idx_str, len_tup, len_lst, len_scr, len_str, sl_tup, sl_lst, neg_int, str_int, str_str, int_int, int_bl, is_non, is_int, is_str, is_tup, is_lst, is_bl, is_bb, eq_int, eq_str, eq_bl, ne_int, ne_str, ne_bl, eq_nilL, ty_non, ty_bl, ty_int, ty_str, ty_tup, ty_lst, ty_scr, ty_dk, Ty.sub, tr_bl, tr_non, tr_int, tr_str, sv_lst, sv_tup, sv_scr, lv_lst, at0, at1, at2, cut1, len0, ss_nil, for_nil, for_cons, pairs_cons, pairs_nil, pairs_nil', walk_lst, walk_scr, walk_tup, walk_str, walk_ref, List.getElem?_cons_zero, List.getElem?_cons_succ, List.length_cons, List.length_nil, List.append_nil, List.cons_append, List.nil_append, Option.some.injEq, W.int.injEq, W.str.injEq, W.bl.injEq, W.tup.injEq, W.lst.injEq, W.ref.injEq, List.cons.injEq, Option.map_some, exists_and_left, exists_and_right, exists_eq_left, exists_eq_left', exists_eq, exists_eq', exists_eq_right, exists_eq_right', and_true, true_and, and_assoc, reduceIte, reduceCtorEq, decide_true, decide_false, decide_eq_true_eq, decide_eq_false_iff_not, Bool.not_eq_true', Bool.not_eq_false', Bool.true_eq_false, Bool.false_eq_true, if_true, if_false, Bool.not_true, Bool.not_false, ite_true, ite_false, Int.cast_ofNat_Int, Int.reduceAdd, Int.reduceSub, Int.reduceEq, Int.reduceLT, Int.reduceLE, Int.natCast_add, Nat.reduceEqDiff, Nat.reduceAdd, Nat.add_zero, Nat.zero_add, Nat.succ_ne_zero, not_true_eq_false, not_false_eq_true, Option.getD_some, Option.getD_none]
    exact hK _ _ ⟨⟨_, rfl⟩, rfl⟩
  · obtain ⟨_, rfl⟩ := h
    exact q
end WL
namespace WL
open PySem L2
def c_l_mix_3 : Ss := .cons (.asg (.name 2) (.bin .Mod false (.bin .Add false (.bin .Add false (.bin .Mult false (.var 2) (.lit (.int 48271))) (.bin .Mod false (.var 3) (.lit (.int 2147483629)))) (.lit (.int 1))) (.lit (.int 2147483647)))) .nil
theorem st_l_mix_3 {Γ : Gam} {D : Dw} {σ : Sw} {M : Mh} : dSs Γ c_l_mix_3 D σ M = dSc Γ (.asg (.name 2) (.bin .Mod false (.bin .Add false (.bin .Add false (.bin .Mult false (.var 2) (.lit (.int 48271))) (.bin .Mod false (.var 3) (.lit (.int 2147483629)))) (.lit (.int 1))) (.lit (.int 2147483647)))) { D with nx := dSs Γ .nil D } σ M := rfl
def c_l_mix_2 : Ss := .cons (.ret (.lst true (.cons (.var 2) (.cons (.blt true .list (.cons (.var 0) .nil)) (.cons (.lit (.int 0)) .nil))))) .nil
theorem st_l_mix_2 {Γ : Gam} {D : Dw} {σ : Sw} {M : Mh} : dSs Γ c_l_mix_2 D σ M = dSc Γ (.ret (.lst true (.cons (.var 2) (.cons (.blt true .list (.cons (.var 0) .nil)) (.cons (.lit (.int 0)) .nil))))) { D with nx := dSs Γ .nil D } σ M := rfl
def c_l_mix_1 : Ss := .cons (.for_ (.name 3) (.seq (.var 0)) c_l_mix_3) c_l_mix_2
theorem st_l_mix_1 {Γ : Gam} {D : Dw} {σ : Sw} {M : Mh} : dSs Γ c_l_mix_1 D σ M = dSc Γ (.for_ (.name 3) (.seq (.var 0)) c_l_mix_3) { D with nx := dSs Γ c_l_mix_2 D } σ M := rfl
def c_l_mix : Ss := .cons (.asg (.name 2) (.var 1)) c_l_mix_1
theorem st_l_mix {Γ : Gam} {D : Dw} {σ : Sw} {M : Mh} : dSs Γ c_l_mix D σ M = dSc Γ (.asg (.name 2) (.var 1)) { D with nx := dSs Γ c_l_mix_1 D } σ M := rfl
def n_l_mix : List Str := ["_law_script", "_law_seed", "_law_mixed", "_law_cell"]
def c_l_next_7 : Ss := .cons (.ret (.bin .Mod false (.var 3) (.var 1))) .nil
theorem st_l_next_7 {Γ : Gam} {D : Dw} {σ : Sw} {M : Mh} : dSs Γ c_l_next_7 D σ M = dSc Γ (.ret (.bin .Mod false (.var 3) (.var 1))) { D with nx := dSs Γ .nil D } σ M := rfl
def c_l_next_6 : Ss := .cons (.set (.idx (.var 0) (.lit (.int 1))) (.var 2) (.bin .FloorDiv false (.var 3) (.var 1))) c_l_next_7
theorem st_l_next_6 {Γ : Gam} {D : Dw} {σ : Sw} {M : Mh} : dSs Γ c_l_next_6 D σ M = dSc Γ (.set (.idx (.var 0) (.lit (.int 1))) (.var 2) (.bin .FloorDiv false (.var 3) (.var 1))) { D with nx := dSs Γ c_l_next_7 D } σ M := rfl
def c_l_next_5 : Ss := .cons (.ret (.bin .Mod false (.bin .FloorDiv false (.idx (.var 0) (.lit (.int 0))) (.lit (.int 7))) (.var 1))) .nil
theorem st_l_next_5 {Γ : Gam} {D : Dw} {σ : Sw} {M : Mh} : dSs Γ c_l_next_5 D σ M = dSc Γ (.ret (.bin .Mod false (.bin .FloorDiv false (.idx (.var 0) (.lit (.int 0))) (.lit (.int 7))) (.var 1))) { D with nx := dSs Γ .nil D } σ M := rfl
def c_l_next_4 : Ss := .cons (.set (.var 0) (.lit (.int 2)) (.bin .Add false (.idx (.var 0) (.lit (.int 2))) (.lit (.int 1)))) c_l_next_5
theorem st_l_next_4 {Γ : Gam} {D : Dw} {σ : Sw} {M : Mh} : dSs Γ c_l_next_4 D σ M = dSc Γ (.set (.var 0) (.lit (.int 2)) (.bin .Add false (.idx (.var 0) (.lit (.int 2))) (.lit (.int 1)))) { D with nx := dSs Γ c_l_next_5 D } σ M := rfl
def c_l_next_3 : Ss := .cons (.set (.var 0) (.lit (.int 0)) (.bin .Mod false (.bin .Add false (.bin .Add false (.bin .Mult false (.idx (.var 0) (.lit (.int 0))) (.lit (.int 48271))) (.bin .Mult false (.var 3) (.lit (.int 69621)))) (.lit (.int 11))) (.lit (.int 2147483647)))) c_l_next_4
theorem st_l_next_3 {Γ : Gam} {D : Dw} {σ : Sw} {M : Mh} : dSs Γ c_l_next_3 D σ M = dSc Γ (.set (.var 0) (.lit (.int 0)) (.bin .Mod false (.bin .Add false (.bin .Add false (.bin .Mult false (.idx (.var 0) (.lit (.int 0))) (.lit (.int 48271))) (.bin .Mult false (.var 3) (.lit (.int 69621)))) (.lit (.int 11))) (.lit (.int 2147483647)))) { D with nx := dSs Γ c_l_next_4 D } σ M := rfl
def c_l_next_2 : Ss := .cons (.ite (.cmp .GtE (.var 3) (.bin .Pow false (.lit (.int 10)) (.lit (.int 18)))) c_l_next_6 .nil) c_l_next_3
theorem st_l_next_2 {Γ : Gam} {D : Dw} {σ : Sw} {M : Mh} : dSs Γ c_l_next_2 D σ M = dSc Γ (.ite (.cmp .GtE (.var 3) (.bin .Pow false (.lit (.int 10)) (.lit (.int 18)))) c_l_next_6 .nil) { D with nx := dSs Γ c_l_next_3 D } σ M := rfl
def c_l_next_1 : Ss := .cons (.asg (.name 3) (.ite (.cmp .NotEq (.idx (.var 0) (.lit (.int 1))) (.lst false .nil)) (.idx (.idx (.var 0) (.lit (.int 1))) (.var 2)) (.lit (.int 0)))) c_l_next_2
theorem st_l_next_1 {Γ : Gam} {D : Dw} {σ : Sw} {M : Mh} : dSs Γ c_l_next_1 D σ M = dSc Γ (.asg (.name 3) (.ite (.cmp .NotEq (.idx (.var 0) (.lit (.int 1))) (.lst false .nil)) (.idx (.idx (.var 0) (.lit (.int 1))) (.var 2)) (.lit (.int 0)))) { D with nx := dSs Γ c_l_next_2 D } σ M := rfl
def c_l_next : Ss := .cons (.asg (.name 2) (.bin .Mod false (.idx (.var 0) (.lit (.int 2))) (.blt false .max2 (.cons (.lit (.int 1)) (.cons (.blt false .len (.cons (.idx (.var 0) (.lit (.int 1))) .nil)) .nil))))) c_l_next_1
theorem st_l_next {Γ : Gam} {D : Dw} {σ : Sw} {M : Mh} : dSs Γ c_l_next D σ M = dSc Γ (.asg (.name 2) (.bin .Mod false (.idx (.var 0) (.lit (.int 2))) (.blt false .max2 (.cons (.lit (.int 1)) (.cons (.blt false .len (.cons (.idx (.var 0) (.lit (.int 1))) .nil)) .nil))))) { D with nx := dSs Γ c_l_next_1 D } σ M := rfl
def n_l_next : List Str := ["_law_h", "_law_many", "_law_at", "_law_cell"]
structure Hs (a s : Addr) (M : Mh) : Prop where
  ex : ∃ (x t : Nat) (cells : List Int), M a = some (.lst [.int x, .ref s, .int t]) ∧ M s = some (.lst (cells.map W.int)) ∧ x < 2147483647
  ne : a ≠ s
def Fr (a s : Addr) (M M' : Mh) : Prop := ∀ b o, M b = some o → b ≠ a → b ≠ s → M' b = some o
theorem Fr.refl {a s : Addr} {M : Mh} : Fr a s M M := fun _ _ h _ _ => h
theorem Fr.trans {a s : Addr} {M M' M'' : Mh} (h : Fr a s M M') (h' : Fr a s M' M'') : Fr a s M M'' := fun b o hb h1 h2 => h' b o (h b o hb h1 h2) h1 h2
theorem mup_at {M : Mh} {a : Addr} {o : MO} : mup M a o a = some o := by simp [mup]
theorem mup_off {M : Mh} {a b : Addr} {o : MO} (h : b ≠ a) : mup M a o b = M b := by simp [mup, h]
def sp_l_mix : Nat → Wp := fun _ ws M Q _ => ∃ (ns : List Int) (n : Nat), ws = [.scr (ns.map W.int), .int n] ∧ n < 2147483647 ∧ ∀ a s M', M a = none → M s = none → Hs a s M' → Fr a s M M' → Q (.ref a) M'
theorem keep_l_mix {Γ : Gam} {k : Nat} : KeepC Γ n_l_mix 2 c_l_mix (sp_l_mix k) := by
  rintro ws M Q Ex ⟨ns, n, rfl, hn, q⟩
  refine ⟨rfl, ?_⟩
  show dSs Γ _ _ [some (.scr (ns.map W.int)), some (.int n), none, none] M
  simp only [st_l_mix, st_l_mix_1, dX, dXs, dXo, dXi, dSc, d2, d1, dN, dVar, dC, dTup, dLst, dTru, dB, dChain, dIte, dNotV, dNotT, dJoinV, dJoinT, dNil, dCons, dCall, dBM, dIsi, dIsi2, dAttr, dMeth, dNew, dDget, dDin, dDnew, dKidx, dKin, dKget, dDisp, dFrz, dSlice, dNoPart, dPart, dAsg, dExpr, dRet, dIf, dFld, dSet, dDput, dNever, dFor, dNext, binP, cmpP, iSeqD, iRg1, iRg2, iZip, iEnumD, Tg.asg, setAll, List.set, List.map_cons, List.map_nil, subW, modW, fdivW, powW, ltW, leW, gtW, geW, newL, finD, frzO, tupW, listW, oneW, twoW, BI.w, ints_eq, add_int, add_str, add_tup, add_lst, mul_int, mul_lst, idx_tup, idx_lst, idx_scr, idx_str, len_tup, len_lst, len_scr, len_str, sl_tup, sl_lst, neg_int, str_int, str_str, int_int, int_bl, is_non, is_int, is_str, is_tup, is_lst, is_bl, is_bb, eq_int, eq_str, eq_bl, ne_int, ne_str, ne_bl, eq_nilL, ty_non, ty_bl, ty_int, ty_str, ty_tup, ty_lst, ty_scr, ty_dk, Ty.sub, tr_bl, tr_non, tr_int, tr_str, sv_lst, sv_tup, sv_scr, lv_lst, at0, at1, at2, cut1, len0, ss_nil, for_nil, for_cons, pairs_cons, pairs_nil, pairs_nil', walk_lst, walk_scr, walk_tup, walk_str, walk_ref, List.getElem?_cons_zero, List.getElem?_cons_succ, List.length_cons, List.length_nil, List.append_nil, List.cons_append, List.nil_append, Option.some.injEq, W.int.injEq, W.str.injEq, W.bl.injEq, W.tup.injEq, W.lst.injEq, W.ref.injEq, List.cons.injEq, Option.map_some, exists_and_left, exists_and_right, exists_eq_left, exists_eq_left', exists_eq, exists_eq', exists_eq_right, exists_eq_right', and_true, true_and, and_assoc, reduceIte, reduceCtorEq, decide_true, decide_false, decide_eq_true_eq, decide_eq_false_iff_not, Bool.not_eq_true', Bool.not_eq_false', Bool.true_eq_false, Bool.false_eq_true, if_true, if_false, Bool.not_true, Bool.not_false, ite_true, ite_false, Int.cast_ofNat_Int, Int.reduceAdd, Int.reduceSub, Int.reduceEq, Int.reduceLT, Int.reduceLE, Int.natCast_add, Nat.reduceEqDiff, Nat.reduceAdd, Nat.add_zero, Nat.zero_add, Nat.succ_ne_zero, not_true_eq_false, not_false_eq_true, Option.getD_some, Option.getD_none]
  refine for_inv (fun _ σ M' => (∃ (x : Nat) (y : Option W), σ = [some (.scr (ns.map W.int)), some (.int n), some (.int x), y] ∧ x < 2147483647) ∧ M' = M) (fun _ _ _ _ => trivial) _ 0 ⟨⟨n, _, rfl, hn⟩, rfl⟩ (fun i x σ M' K e h hK => ?_) (fun σ M' h => ?_)
  · obtain ⟨⟨x0, y, rfl, hx⟩, rfl⟩ := h
    obtain ⟨c, rfl⟩ : ∃ c : Int, x = .int c := by
      obtain ⟨c, _, h⟩ := List.mem_map.mp (List.mem_of_getElem? e)
      exact ⟨c, h.symm⟩
    simp only [st_l_mix_3, dX, dXs, dXo, dXi, dSc, d2, d1, dN, dVar, dC, dTup, dLst, dTru, dB, dChain, dIte, dNotV, dNotT, dJoinV, dJoinT, dNil, dCons, dCall, dBM, dIsi, dIsi2, dAttr, dMeth, dNew, dDget, dDin, dDnew, dKidx, dKin, dKget, dDisp, dFrz, dSlice, dNoPart, dPart, dAsg, dExpr, dRet, dIf, dFld, dSet, dDput, dNever, dFor, dNext, binP, cmpP, iSeqD, iRg1, iRg2, iZip, iEnumD, Tg.asg, setAll, List.set, List.map_cons, List.map_nil, subW, modW, fdivW, powW, ltW, leW, gtW, geW, newL, finD, frzO, tupW, listW, oneW, twoW, BI.w, ints_eq, add_int, add_str, add_tup, add_lst, mul_int, mul_lst, idx_tup, idx_lst, idx_scr, idx_str, len_tup, len_lst, len_scr, len_str, sl_tup, sl_lst, neg_int, str_int, str_str, int_int, int_bl, is_non, is_int, is_str, is_tup, is_lst, is_bl, is_bb, eq_int, eq_str, eq_bl, ne_int, ne_str, ne_bl, eq_nilL, ty_non, ty_bl, ty_int, ty_str, ty_tup, ty_lst, ty_scr, ty_dk, Ty.sub, tr_bl, tr_non, tr_int, tr_str, sv_lst, sv_tup, sv_scr, lv_lst, at0, at1, at2, cut1, len0, ss_nil, for_nil, for_cons, pairs_cons, pairs_nil, pairs_nil', walk_lst, walk_scr, walk_tup, walk_str, walk_ref, List.getElem?_cons_zero, List.getElem?_cons_succ, List.length_cons, List.length_nil, List.append_nil, List.cons_append, List.nil_append, Option.some.injEq, W.int.injEq, W.str.injEq, W.bl.injEq, W.tup.injEq, W.lst.injEq, W.ref.injEq, List.cons.injEq, Option.map_some, exists_and_left, exists_and_right, exists_eq_left, exists_eq_left', exists_eq, exists_eq', exists_eq_right, exists_eq_right', and_true, true_and, and_assoc, reduceIte, reduceCtorEq, decide_true, decide_false, decide_eq_true_eq, decide_eq_false_iff_not, Bool.not_eq_true', Bool.not_eq_false', Bool.true_eq_false, Bool.false_eq_true, if_true, if_false, Bool.not_true, Bool.not_false, ite_true, ite_false, Int.cast_ofNat_Int, Int.reduceAdd, Int.reduceSub, Int.reduceEq, Int.reduceLT, Int.reduceLE, Int.natCast_add, Nat.reduceEqDiff, Nat.reduceAdd, Nat.add_zero, Nat.zero_add, Nat.succ_ne_zero, not_true_eq_false, not_false_eq_true, Option.getD_some, Option.getD_none]
    refine ⟨.inl ⟨by omega, by omega⟩, ?_⟩
    have h0 : 0 ≤ ((x0 : Int) * 48271 + c % 2147483629 + 1) % 2147483647 := Int.emod_nonneg _ (by decide)
    have h1 : ((x0 : Int) * 48271 + c % 2147483629 + 1) % 2147483647 < 2147483647 := Int.emod_lt_of_pos _ (by decide)
    obtain ⟨m, hm⟩ := Int.eq_ofNat_of_zero_le h0
    rw [hm]
    exact hK _ _ ⟨⟨m, _, rfl, by omega⟩, rfl⟩
  · obtain ⟨⟨x0, y, rfl, hx⟩, rfl⟩ := h
    simp only [st_l_mix_2, dX, dXs, dXo, dXi, dSc, d2, d1, dN, dVar, dC, dTup, dLst, dTru, dB, dChain, dIte, dNotV, dNotT, dJoinV, dJoinT, dNil, dCons, dCall, dBM, dIsi, dIsi2, dAttr, dMeth, dNew, dDget, dDin, dDnew, dKidx, dKin, dKget, dDisp, dFrz, dSlice, dNoPart, dPart, dAsg, dExpr, dRet, dIf, dFld, dSet, dDput, dNever, dFor, dNext, binP, cmpP, iSeqD, iRg1, iRg2, iZip, iEnumD, Tg.asg, setAll, List.set, List.map_cons, List.map_nil, subW, modW, fdivW, powW, ltW, leW, gtW, geW, newL, finD, frzO, tupW, listW, oneW, twoW, BI.w, ints_eq, add_int, add_str, add_tup, add_lst, mul_int, mul_lst, idx_tup, idx_lst, idx_scr, idx_str, len_tup, len_lst, len_scr, len_str, sl_tup, sl_lst, neg_int, str_int, str_str, int_int, int_bl, is_non, is_int, is_str, is_tup, is_lst, is_bl, is_bb, eq_int, eq_str, eq_bl, ne_int, ne_str, ne_bl, eq_nilL, ty_non, ty_bl, ty_int, ty_str, ty_tup, ty_lst, ty_scr, ty_dk, Ty.sub, tr_bl, tr_non, tr_int, tr_str, sv_lst, sv_tup, sv_scr, lv_lst, at0, at1, at2, cut1, len0, ss_nil, for_nil, for_cons, pairs_cons, pairs_nil, pairs_nil', walk_lst, walk_scr, walk_tup, walk_str, walk_ref, List.getElem?_cons_zero, List.getElem?_cons_succ, List.length_cons, List.length_nil, List.append_nil, List.cons_append, List.nil_append, Option.some.injEq, W.int.injEq, W.str.injEq, W.bl.injEq, W.tup.injEq, W.lst.injEq, W.ref.injEq, List.cons.injEq, Option.map_some, exists_and_left, exists_and_right, exists_eq_left, exists_eq_left', exists_eq, exists_eq', exists_eq_right, exists_eq_right', and_true, true_and, and_assoc, reduceIte, reduceCtorEq, decide_true, decide_false, decide_eq_true_eq, decide_eq_false_iff_not, Bool.not_eq_true', Bool.not_eq_false', Bool.true_eq_false, Bool.false_eq_true, if_true, if_false, Bool.not_true, Bool.not_false, ite_true, ite_false, Int.cast_ofNat_Int, Int.reduceAdd, Int.reduceSub, Int.reduceEq, Int.reduceLT, Int.reduceLE, Int.natCast_add, Nat.reduceEqDiff, Nat.reduceAdd, Nat.add_zero, Nat.zero_add, Nat.succ_ne_zero, not_true_eq_false, not_false_eq_true, Option.getD_some, Option.getD_none]
    intro s hs
    refine ⟨by decide, fun a ha => ?_⟩
    have ne : a ≠ s := fun z => by rw [z, mup_at] at ha; cases ha
    rw [mup_off ne] at ha
    refine q a s _ ha hs ⟨⟨x0, 0, ns, mup_at, by rw [mup_off (Ne.symm ne), mup_at], hx⟩, ne⟩ fun b o hb h1 h2 => ?_
    rw [mup_off h1, mup_off h2]; exact hb
def sp_l_next : Nat → Wp := fun _ ws M Q _ => ∃ (a s : Addr) (n : Nat), ws = [.ref a, .int n] ∧ Hs a s M ∧ 0 < n ∧ n < 1073741824 ∧ ∀ (r : Nat) M', r < n → Hs a s M' → Fr a s M M' → Q (.int r) M'
theorem keep_l_next {Γ : Gam} {k : Nat} : KeepC Γ n_l_next 2 c_l_next (sp_l_next k) := by
  rintro ws M Q Ex ⟨a, s, n, rfl, ⟨⟨x, t, cells, ha, hs, hx⟩, ne⟩, hn, hn2, q⟩
  refine ⟨rfl, ?_⟩
  show dSs Γ _ _ [some (.ref a), some (.int n), none, none] M
  rw [st_l_next]
  simp only [dX, dXs, dXo, dXi, dSc, d2, d1, dN, dVar, dC, dTup, dLst, dTru, dB, dChain, dIte, dNotV, dNotT, dJoinV, dJoinT, dNil, dCons, dCall, dBM, dIsi, dIsi2, dAttr, dMeth, dNew, dDget, dDin, dDnew, dKidx, dKin, dKget, dDisp, dFrz, dSlice, dNoPart, dPart, dAsg, dExpr, dRet, dIf, dFld, dSet, dDput, dNever, dFor, dNext, binP, cmpP, iSeqD, iRg1, iRg2, iZip, iEnumD, Tg.asg, setAll, List.set, List.map_cons, List.map_nil, subW, modW, fdivW, powW, ltW, leW, gtW, geW, newL, finD, frzO, tupW, listW, oneW, twoW, BI.w, ints_eq, add_int, add_str, add_tup, add_lst, mul_int, mul_lst, idx_tup, idx_lst, idx_scr, idx_str, len_tup, len_lst, len_scr, len_str, sl_tup, sl_lst, neg_int, str_int, str_str, int_int, int_bl, is_non, is_int, is_str, is_tup, is_lst, is_bl, is_bb, eq_int, eq_str, eq_bl, ne_int, ne_str, ne_bl, eq_nilL, ty_non, ty_bl, ty_int, ty_str, ty_tup, ty_lst, ty_scr, ty_dk, Ty.sub, tr_bl, tr_non, tr_int, tr_str, sv_lst, sv_tup, sv_scr, lv_lst, at0, at1, at2, cut1, len0, ss_nil, for_nil, for_cons, pairs_cons, pairs_nil, pairs_nil', walk_lst, walk_scr, walk_tup, walk_str, walk_ref, List.getElem?_cons_zero, List.getElem?_cons_succ, List.length_cons, List.length_nil, List.append_nil, List.cons_append, List.nil_append, Option.some.injEq, W.int.injEq, W.str.injEq, W.bl.injEq, W.tup.injEq, W.lst.injEq, W.ref.injEq, List.cons.injEq, Option.map_some, exists_and_left, exists_and_right, exists_eq_left, exists_eq_left', exists_eq, exists_eq', exists_eq_right, exists_eq_right', and_true, true_and, and_assoc, reduceIte, reduceCtorEq, decide_true, decide_false, decide_eq_true_eq, decide_eq_false_iff_not, Bool.not_eq_true', Bool.not_eq_false', Bool.true_eq_false, Bool.false_eq_true, if_true, if_false, Bool.not_true, Bool.not_false, ite_true, ite_false, Int.cast_ofNat_Int, Int.reduceAdd, Int.reduceSub, Int.reduceEq, Int.reduceLT, Int.reduceLE, Int.natCast_add, Nat.reduceEqDiff, Nat.reduceAdd, Nat.add_zero, Nat.zero_add, Nat.succ_ne_zero, not_true_eq_false, not_false_eq_true, Option.getD_some, Option.getD_none, idx_ref ha, len_ref hs, st_l_next_1, ne_ref0 hs (pl_lst fun w hw => by obtain ⟨c, _, rfl⟩ := List.mem_map.mp hw; exact pl_int), idx_ref hs, List.map_eq_nil_iff, List.length_map]
  have tail : ∀ (c j : Int), (1000000000000000000 ≤ c → ∃ i : Nat, i < cells.length ∧ j = i) → dSs Γ c_l_next_2 { nx := fun x M' => Q W.non M', rt := Q, ex := Ex } [some (W.ref a), some (W.int n), some (W.int j), some (.int c)] M := by
    intro c j hc
    have p18 : ((10 : Int) ^ (18 : Int).toNat) = 1000000000000000000 := by decide
    simp only [st_l_next_2, dX, dXs, dXo, dXi, dSc, d2, d1, dN, dVar, dC, dTup, dLst, dTru, dB, dChain, dIte, dNotV, dNotT, dJoinV, dJoinT, dNil, dCons, dCall, dBM, dIsi, dIsi2, dAttr, dMeth, dNew, dDget, dDin, dDnew, dKidx, dKin, dKget, dDisp, dFrz, dSlice, dNoPart, dPart, dAsg, dExpr, dRet, dIf, dFld, dSet, dDput, dNever, dFor, dNext, binP, cmpP, iSeqD, iRg1, iRg2, iZip, iEnumD, Tg.asg, setAll, List.set, List.map_cons, List.map_nil, subW, modW, fdivW, powW, ltW, leW, gtW, geW, newL, finD, frzO, tupW, listW, oneW, twoW, BI.w, ints_eq, add_int, add_str, add_tup, add_lst, mul_int, mul_lst, idx_tup, idx_lst, idx_scr, idx_str, len_tup, len_lst, len_scr, len_str, sl_tup, sl_lst, neg_int, str_int, str_str, int_int, int_bl, is_non, is_int, is_str, is_tup, is_lst, is_bl, is_bb, eq_int, eq_str, eq_bl, ne_int, ne_str, ne_bl, eq_nilL, ty_non, ty_bl, ty_int, ty_str, ty_tup, ty_lst, ty_scr, ty_dk, Ty.sub, tr_bl, tr_non, tr_int, tr_str, sv_lst, sv_tup, sv_scr, lv_lst, at0, at1, at2, cut1, len0, ss_nil, for_nil, for_cons, pairs_cons, pairs_nil, pairs_nil', walk_lst, walk_scr, walk_tup, walk_str, walk_ref, List.getElem?_cons_zero, List.getElem?_cons_succ, List.length_cons, List.length_nil, List.append_nil, List.cons_append, List.nil_append, Option.some.injEq, W.int.injEq, W.str.injEq, W.bl.injEq, W.tup.injEq, W.lst.injEq, W.ref.injEq, List.cons.injEq, Option.map_some, exists_and_left, exists_and_right, exists_eq_left, exists_eq_left', exists_eq, exists_eq', exists_eq_right, exists_eq_right', and_true, true_and, and_assoc, reduceIte, reduceCtorEq, decide_true, decide_false, decide_eq_true_eq, decide_eq_false_iff_not, Bool.not_eq_true', Bool.not_eq_false', Bool.true_eq_false, Bool.false_eq_true, if_true, if_false, Bool.not_true, Bool.not_false, ite_true, ite_false, Int.cast_ofNat_Int, Int.reduceAdd, Int.reduceSub, Int.reduceEq, Int.reduceLT, Int.reduceLE, Int.natCast_add, Nat.reduceEqDiff, Nat.reduceAdd, Nat.add_zero, Nat.zero_add, Nat.succ_ne_zero, not_true_eq_false, not_false_eq_true, Option.getD_some, Option.getD_none, p18]
    refine ⟨by decide, ?_⟩
    by_cases h : 1000000000000000000 ≤ c
    · obtain ⟨i, hi, rfl⟩ := hc h
      simp only [h, if_true, dX, dXs, dXo, dXi, dSc, d2, d1, dN, dVar, dC, dTup, dLst, dTru, dB, dChain, dIte, dNotV, dNotT, dJoinV, dJoinT, dNil, dCons, dCall, dBM, dIsi, dIsi2, dAttr, dMeth, dNew, dDget, dDin, dDnew, dKidx, dKin, dKget, dDisp, dFrz, dSlice, dNoPart, dPart, dAsg, dExpr, dRet, dIf, dFld, dSet, dDput, dNever, dFor, dNext, binP, cmpP, iSeqD, iRg1, iRg2, iZip, iEnumD, Tg.asg, setAll, List.set, List.map_cons, List.map_nil, subW, modW, fdivW, powW, ltW, leW, gtW, geW, newL, finD, frzO, tupW, listW, oneW, twoW, BI.w, ints_eq, add_int, add_str, add_tup, add_lst, mul_int, mul_lst, idx_tup, idx_lst, idx_scr, idx_str, len_tup, len_lst, len_scr, len_str, sl_tup, sl_lst, neg_int, str_int, str_str, int_int, int_bl, is_non, is_int, is_str, is_tup, is_lst, is_bl, is_bb, eq_int, eq_str, eq_bl, ne_int, ne_str, ne_bl, eq_nilL, ty_non, ty_bl, ty_int, ty_str, ty_tup, ty_lst, ty_scr, ty_dk, Ty.sub, tr_bl, tr_non, tr_int, tr_str, sv_lst, sv_tup, sv_scr, lv_lst, at0, at1, at2, cut1, len0, ss_nil, for_nil, for_cons, pairs_cons, pairs_nil, pairs_nil', walk_lst, walk_scr, walk_tup, walk_str, walk_ref, List.getElem?_cons_zero, List.getElem?_cons_succ, List.length_cons, List.length_nil, List.append_nil, List.cons_append, List.nil_append, Option.some.injEq, W.int.injEq, W.str.injEq, W.bl.injEq, W.tup.injEq, W.lst.injEq, W.ref.injEq, List.cons.injEq, Option.map_some, exists_and_left, exists_and_right, exists_eq_left, exists_eq_left', exists_eq, exists_eq', exists_eq_right, exists_eq_right', and_true, true_and, and_assoc, reduceIte, reduceCtorEq, decide_true, decide_false, decide_eq_true_eq, decide_eq_false_iff_not, Bool.not_eq_true', Bool.not_eq_false', Bool.true_eq_false, Bool.false_eq_true, if_true, if_false, Bool.not_true, Bool.not_false, ite_true, ite_false, Int.cast_ofNat_Int, Int.reduceAdd, Int.reduceSub, Int.reduceEq, Int.reduceLT, Int.reduceLE, Int.natCast_add, Nat.reduceEqDiff, Nat.reduceAdd, Nat.add_zero, Nat.zero_add, Nat.succ_ne_zero, not_true_eq_false, not_false_eq_true, Option.getD_some, Option.getD_none, st_l_next_6, idx_ref ha]
      refine ⟨by omega, by omega, _, hs, i, by simp [ixN, hi], ?_⟩
      simp only [dX, dXs, dXo, dXi, dSc, d2, d1, dN, dVar, dC, dTup, dLst, dTru, dB, dChain, dIte, dNotV, dNotT, dJoinV, dJoinT, dNil, dCons, dCall, dBM, dIsi, dIsi2, dAttr, dMeth, dNew, dDget, dDin, dDnew, dKidx, dKin, dKget, dDisp, dFrz, dSlice, dNoPart, dPart, dAsg, dExpr, dRet, dIf, dFld, dSet, dDput, dNever, dFor, dNext, binP, cmpP, iSeqD, iRg1, iRg2, iZip, iEnumD, Tg.asg, setAll, List.set, List.map_cons, List.map_nil, subW, modW, fdivW, powW, ltW, leW, gtW, geW, newL, finD, frzO, tupW, listW, oneW, twoW, BI.w, ints_eq, add_int, add_str, add_tup, add_lst, mul_int, mul_lst, idx_tup, idx_lst, idx_scr, idx_str, len_tup, len_lst, len_scr, len_str, sl_tup, sl_lst, neg_int, str_int, str_str, int_int, int_bl, is_non, is_int, is_str, is_tup, is_lst, is_bl, is_bb, eq_int, eq_str, eq_bl, ne_int, ne_str, ne_bl, eq_nilL, ty_non, ty_bl, ty_int, ty_str, ty_tup, ty_lst, ty_scr, ty_dk, Ty.sub, tr_bl, tr_non, tr_int, tr_str, sv_lst, sv_tup, sv_scr, lv_lst, at0, at1, at2, cut1, len0, ss_nil, for_nil, for_cons, pairs_cons, pairs_nil, pairs_nil', walk_lst, walk_scr, walk_tup, walk_str, walk_ref, List.getElem?_cons_zero, List.getElem?_cons_succ, List.length_cons, List.length_nil, List.append_nil, List.cons_append, List.nil_append, Option.some.injEq, W.int.injEq, W.str.injEq, W.bl.injEq, W.tup.injEq, W.lst.injEq, W.ref.injEq, List.cons.injEq, Option.map_some, exists_and_left, exists_and_right, exists_eq_left, exists_eq_left', exists_eq, exists_eq', exists_eq_right, exists_eq_right', and_true, true_and, and_assoc, reduceIte, reduceCtorEq, decide_true, decide_false, decide_eq_true_eq, decide_eq_false_iff_not, Bool.not_eq_true', Bool.not_eq_false', Bool.true_eq_false, Bool.false_eq_true, if_true, if_false, Bool.not_true, Bool.not_false, ite_true, ite_false, Int.cast_ofNat_Int, Int.reduceAdd, Int.reduceSub, Int.reduceEq, Int.reduceLT, Int.reduceLE, Int.natCast_add, Nat.reduceEqDiff, Nat.reduceAdd, Nat.add_zero, Nat.zero_add, Nat.succ_ne_zero, not_true_eq_false, not_false_eq_true, Option.getD_some, Option.getD_none, st_l_next_7]
      refine ⟨by omega, ?_⟩
      have h0 := Int.emod_nonneg c (by omega : (n : Int) ≠ 0)
      have h1 := Int.emod_lt_of_pos c (by omega : (0 : Int) < n)
      obtain ⟨r, hr⟩ := Int.eq_ofNat_of_zero_le h0
      rw [hr]
      refine q r _ (by omega) ⟨⟨x, t, cells.set i (c / n), by rw [mup_off ne]; exact ha, by rw [mup_at, List.map_set], hx⟩, ne⟩ fun b o hb h1 h2 => ?_
      rw [mup_off h2]; exact hb
    · simp only [h, if_false, dX, dXs, dXo, dXi, dSc, d2, d1, dN, dVar, dC, dTup, dLst, dTru, dB, dChain, dIte, dNotV, dNotT, dJoinV, dJoinT, dNil, dCons, dCall, dBM, dIsi, dIsi2, dAttr, dMeth, dNew, dDget, dDin, dDnew, dKidx, dKin, dKget, dDisp, dFrz, dSlice, dNoPart, dPart, dAsg, dExpr, dRet, dIf, dFld, dSet, dDput, dNever, dFor, dNext, binP, cmpP, iSeqD, iRg1, iRg2, iZip, iEnumD, Tg.asg, setAll, List.set, List.map_cons, List.map_nil, subW, modW, fdivW, powW, ltW, leW, gtW, geW, newL, finD, frzO, tupW, listW, oneW, twoW, BI.w, ints_eq, add_int, add_str, add_tup, add_lst, mul_int, mul_lst, idx_tup, idx_lst, idx_scr, idx_str, len_tup, len_lst, len_scr, len_str, sl_tup, sl_lst, neg_int, str_int, str_str, int_int, int_bl, is_non, is_int, is_str, is_tup, is_lst, is_bl, is_bb, eq_int, eq_str, eq_bl, ne_int, ne_str, ne_bl, eq_nilL, ty_non, ty_bl, ty_int, ty_str, ty_tup, ty_lst, ty_scr, ty_dk, Ty.sub, tr_bl, tr_non, tr_int, tr_str, sv_lst, sv_tup, sv_scr, lv_lst, at0, at1, at2, cut1, len0, ss_nil, for_nil, for_cons, pairs_cons, pairs_nil, pairs_nil', walk_lst, walk_scr, walk_tup, walk_str, walk_ref, List.getElem?_cons_zero, List.getElem?_cons_succ, List.length_cons, List.length_nil, List.append_nil, List.cons_append, List.nil_append, Option.some.injEq, W.int.injEq, W.str.injEq, W.bl.injEq, W.tup.injEq, W.lst.injEq, W.ref.injEq, List.cons.injEq, Option.map_some, exists_and_left, exists_and_right, exists_eq_left, exists_eq_left', exists_eq, exists_eq', exists_eq_right, exists_eq_right', and_true, true_and, and_assoc, reduceIte, reduceCtorEq, decide_true, decide_false, decide_eq_true_eq, decide_eq_false_iff_not, Bool.not_eq_true', Bool.not_eq_false', Bool.true_eq_false, Bool.false_eq_true, if_true, if_false, Bool.not_true, Bool.not_false, ite_true, ite_false, Int.cast_ofNat_Int, Int.reduceAdd, Int.reduceSub, Int.reduceEq, Int.reduceLT, Int.reduceLE, Int.natCast_add, Nat.reduceEqDiff, Nat.reduceAdd, Nat.add_zero, Nat.zero_add, Nat.succ_ne_zero, not_true_eq_false, not_false_eq_true, Option.getD_some, Option.getD_none, st_l_next_3, idx_ref ha]
      have h0 : 0 ≤ ((x : Int) * 48271 + c * 69621 + 11) % 2147483647 := Int.emod_nonneg _ (by decide)
      have h1 : ((x : Int) * 48271 + c * 69621 + 11) % 2147483647 < 2147483647 := Int.emod_lt_of_pos _ (by decide)
      obtain ⟨x2, hx2⟩ := Int.eq_ofNat_of_zero_le h0
      rw [hx2] at h1 ⊢
      refine ⟨.inl ⟨by omega, by omega⟩, .inr ⟨by omega, by omega⟩, _, ha, 0, rfl, ?_⟩
      simp only [st_l_next_4, dX, dXs, dXo, dXi, dSc, d2, d1, dN, dVar, dC, dTup, dLst, dTru, dB, dChain, dIte, dNotV, dNotT, dJoinV, dJoinT, dNil, dCons, dCall, dBM, dIsi, dIsi2, dAttr, dMeth, dNew, dDget, dDin, dDnew, dKidx, dKin, dKget, dDisp, dFrz, dSlice, dNoPart, dPart, dAsg, dExpr, dRet, dIf, dFld, dSet, dDput, dNever, dFor, dNext, binP, cmpP, iSeqD, iRg1, iRg2, iZip, iEnumD, Tg.asg, setAll, List.set, List.map_cons, List.map_nil, subW, modW, fdivW, powW, ltW, leW, gtW, geW, newL, finD, frzO, tupW, listW, oneW, twoW, BI.w, ints_eq, add_int, add_str, add_tup, add_lst, mul_int, mul_lst, idx_tup, idx_lst, idx_scr, idx_str, len_tup, len_lst, len_scr, len_str, sl_tup, sl_lst, neg_int, str_int, str_str, int_int, int_bl, is_non, is_int, is_str, is_tup, is_lst, is_bl, is_bb, eq_int, eq_str, eq_bl, ne_int, ne_str, ne_bl, eq_nilL, ty_non, ty_bl, ty_int, ty_str, ty_tup, ty_lst, ty_scr, ty_dk, Ty.sub, tr_bl, tr_non, tr_int, tr_str, sv_lst, sv_tup, sv_scr, lv_lst, at0, at1, at2, cut1, len0, ss_nil, for_nil, for_cons, pairs_cons, pairs_nil, pairs_nil', walk_lst, walk_scr, walk_tup, walk_str, walk_ref, List.getElem?_cons_zero, List.getElem?_cons_succ, List.length_cons, List.length_nil, List.append_nil, List.cons_append, List.nil_append, Option.some.injEq, W.int.injEq, W.str.injEq, W.bl.injEq, W.tup.injEq, W.lst.injEq, W.ref.injEq, List.cons.injEq, Option.map_some, exists_and_left, exists_and_right, exists_eq_left, exists_eq_left', exists_eq, exists_eq', exists_eq_right, exists_eq_right', and_true, true_and, and_assoc, reduceIte, reduceCtorEq, decide_true, decide_false, decide_eq_true_eq, decide_eq_false_iff_not, Bool.not_eq_true', Bool.not_eq_false', Bool.true_eq_false, Bool.false_eq_true, if_true, if_false, Bool.not_true, Bool.not_false, ite_true, ite_false, Int.cast_ofNat_Int, Int.reduceAdd, Int.reduceSub, Int.reduceEq, Int.reduceLT, Int.reduceLE, Int.natCast_add, Nat.reduceEqDiff, Nat.reduceAdd, Nat.add_zero, Nat.zero_add, Nat.succ_ne_zero, not_true_eq_false, not_false_eq_true, Option.getD_some, Option.getD_none, idx_ref mup_at]
      refine ⟨_, mup_at, 2, rfl, ?_⟩
      simp only [st_l_next_5, dX, dXs, dXo, dXi, dSc, d2, d1, dN, dVar, dC, dTup, dLst, dTru, dB, dChain, dIte, dNotV, dNotT, dJoinV, dJoinT, dNil, dCons, dCall, dBM, dIsi, dIsi2, dAttr, dMeth, dNew, dDget, dDin, dDnew, dKidx, dKin, dKget, dDisp, dFrz, dSlice, dNoPart, dPart, dAsg, dExpr, dRet, dIf, dFld, dSet, dDput, dNever, dFor, dNext, binP, cmpP, iSeqD, iRg1, iRg2, iZip, iEnumD, Tg.asg, setAll, List.set, List.map_cons, List.map_nil, subW, modW, fdivW, powW, ltW, leW, gtW, geW, newL, finD, frzO, tupW, listW, oneW, twoW, BI.w, ints_eq, add_int, add_str, add_tup, add_lst, mul_int, mul_lst, idx_tup, idx_lst, idx_scr, idx_str, len_tup, len_lst, len_scr, len_str, sl_tup, sl_lst, neg_int, str_int, str_str, int_int, int_bl, is_non, is_int, is_str, is_tup, is_lst, is_bl, is_bb, eq_int, eq_str, eq_bl, ne_int, ne_str, ne_bl, eq_nilL, ty_non, ty_bl, ty_int, ty_str, ty_tup, ty_lst, ty_scr, ty_dk, Ty.sub, tr_bl, tr_non, tr_int, tr_str, sv_lst, sv_tup, sv_scr, lv_lst, at0, at1, at2, cut1, len0, ss_nil, for_nil, for_cons, pairs_cons, pairs_nil, pairs_nil', walk_lst, walk_scr, walk_tup, walk_str, walk_ref, List.getElem?_cons_zero, List.getElem?_cons_succ, List.length_cons, List.length_nil, List.append_nil, List.cons_append, List.nil_append, Option.some.injEq, W.int.injEq, W.str.injEq, W.bl.injEq, W.tup.injEq, W.lst.injEq, W.ref.injEq, List.cons.injEq, Option.map_some, exists_and_left, exists_and_right, exists_eq_left, exists_eq_left', exists_eq, exists_eq', exists_eq_right, exists_eq_right', and_true, true_and, and_assoc, reduceIte, reduceCtorEq, decide_true, decide_false, decide_eq_true_eq, decide_eq_false_iff_not, Bool.not_eq_true', Bool.not_eq_false', Bool.true_eq_false, Bool.false_eq_true, if_true, if_false, Bool.not_true, Bool.not_false, ite_true, ite_false, Int.cast_ofNat_Int, Int.reduceAdd, Int.reduceSub, Int.reduceEq, Int.reduceLT, Int.reduceLE, Int.natCast_add, Nat.reduceEqDiff, Nat.reduceAdd, Nat.add_zero, Nat.zero_add, Nat.succ_ne_zero, not_true_eq_false, not_false_eq_true, Option.getD_some, Option.getD_none, idx_ref mup_at]
      refine ⟨by omega, ?_⟩
      have g0 := Int.emod_nonneg ((x2 : Int) / 7) (by omega : (n : Int) ≠ 0)
      have g1 := Int.emod_lt_of_pos ((x2 : Int) / 7) (by omega : (0 : Int) < n)
      obtain ⟨r, hr⟩ := Int.eq_ofNat_of_zero_le g0
      rw [hr]
      refine q r _ (by omega) ⟨⟨x2, t + 1, cells, by rw [mup_at]; rfl, by rw [mup_off (Ne.symm ne), mup_off (Ne.symm ne)]; exact hs, by omega⟩, ne⟩ fun b o hb h1 h2 => ?_
      rw [mup_off h1, mup_off h1]; exact hb
  by_cases he : cells = []
  · subst he
    refine ⟨by decide, ?_⟩
    rw [if_neg (by simp)]
    exact tail _ _ fun h => absurd h (by decide)
  · rw [if_pos he]
    have hl : 1 ≤ cells.length := by
      cases cells with
      | nil => exact absurd rfl he
      | cons _ _ => simp
    have e : (if (cells.length : Int) > 1 then (cells.length : Int) else 1) = cells.length := by split <;> omega
    rw [e]
    have h0 := Int.emod_nonneg (t : Int) (by omega : (cells.length : Int) ≠ 0)
    have h1 := Int.emod_lt_of_pos (t : Int) (by omega : (0 : Int) < cells.length)
    obtain ⟨i, hi⟩ := Int.eq_ofNat_of_zero_le h0
    rw [hi] at h1 ⊢
    have hi2 : i < cells.length := by omega
    refine ⟨by omega, _, atN (w := .int cells[i]) ?_, tail _ _ fun _ => ⟨i, hi2, rfl⟩⟩
    rw [List.getElem?_map, List.getElem?_eq_getElem hi2]
    rfl
end WL
namespace WL
open PySem L2
def c_l_leaf_v1_3 : Ss := .cons (.asg (.name 3) (.bin .Add false (.var 3) (.lst false (.cons (.tup (.cons (.lit (.str "num")) (.cons (.idx (.lst false (.cons (.call 45 (.cons (.var 0) (.cons (.lit (.int 4)) .nil))) (.cons (.call 45 (.cons (.var 0) (.cons (.lit (.int 100)) .nil))) .nil))) (.call 45 (.cons (.var 0) (.cons (.lit (.int 2)) .nil)))) .nil))) .nil)))) .nil
theorem st_l_leaf_v1_3 {Γ : Gam} {D : Dw} {σ : Sw} {M : Mh} : dSs Γ c_l_leaf_v1_3 D σ M = dSc Γ (.asg (.name 3) (.bin .Add false (.var 3) (.lst false (.cons (.tup (.cons (.lit (.str "num")) (.cons (.idx (.lst false (.cons (.call 45 (.cons (.var 0) (.cons (.lit (.int 4)) .nil))) (.cons (.call 45 (.cons (.var 0) (.cons (.lit (.int 100)) .nil))) .nil))) (.call 45 (.cons (.var 0) (.cons (.lit (.int 2)) .nil)))) .nil))) .nil)))) { D with nx := dSs Γ .nil D } σ M := rfl
def c_l_leaf_v1_4 : Ss := .cons (.asg (.name 3) (.bin .Add false (.var 3) (.lc false (.tup (.cons (.lit (.str "way")) (.cons (.idx (.dget (.var 1) (.lit (.str "plain"))) (.call 45 (.cons (.var 0) (.cons (.blt false .len (.cons (.dget (.var 1) (.lit (.str "plain"))) .nil)) .nil)))) .nil))) (.name 4) (.rg1 (.lit (.int 2))) .none [("_law_k", 4)]))) .nil
theorem st_l_leaf_v1_4 {Γ : Gam} {D : Dw} {σ : Sw} {M : Mh} : dSs Γ c_l_leaf_v1_4 D σ M = dSc Γ (.asg (.name 3) (.bin .Add false (.var 3) (.lc false (.tup (.cons (.lit (.str "way")) (.cons (.idx (.dget (.var 1) (.lit (.str "plain"))) (.call 45 (.cons (.var 0) (.cons (.blt false .len (.cons (.dget (.var 1) (.lit (.str "plain"))) .nil)) .nil)))) .nil))) (.name 4) (.rg1 (.lit (.int 2))) .none [("_law_k", 4)]))) { D with nx := dSs Γ .nil D } σ M := rfl
def c_l_leaf_v1_2 : Ss := .cons (.ret (.idx (.var 3) (.call 45 (.cons (.var 0) (.cons (.blt false .len (.cons (.var 3) .nil)) .nil))))) .nil
theorem st_l_leaf_v1_2 {Γ : Gam} {D : Dw} {σ : Sw} {M : Mh} : dSs Γ c_l_leaf_v1_2 D σ M = dSc Γ (.ret (.idx (.var 3) (.call 45 (.cons (.var 0) (.cons (.blt false .len (.cons (.var 3) .nil)) .nil))))) { D with nx := dSs Γ .nil D } σ M := rfl
def c_l_leaf_v1_1 : Ss := .cons (.ite (.cmp .Eq (.var 2) (.lit (.str "number"))) c_l_leaf_v1_3 c_l_leaf_v1_4) c_l_leaf_v1_2
theorem st_l_leaf_v1_1 {Γ : Gam} {D : Dw} {σ : Sw} {M : Mh} : dSs Γ c_l_leaf_v1_1 D σ M = dSc Γ (.ite (.cmp .Eq (.var 2) (.lit (.str "number"))) c_l_leaf_v1_3 c_l_leaf_v1_4) { D with nx := dSs Γ c_l_leaf_v1_2 D } σ M := rfl
def c_l_leaf_v1 : Ss := .cons (.asg (.name 3) (.bin .Mult false (.bin .Mult false (.lst false (.cons (.tup (.cons (.lit (.str "argument")) .nil)) .nil)) (.lit (.int 3))) (.blt false .int (.cons (.cmp .Eq (.dget (.var 1) (.lit (.str "came"))) (.var 2)) .nil)))) c_l_leaf_v1_1
theorem st_l_leaf_v1 {Γ : Gam} {D : Dw} {σ : Sw} {M : Mh} : dSs Γ c_l_leaf_v1 D σ M = dSc Γ (.asg (.name 3) (.bin .Mult false (.bin .Mult false (.lst false (.cons (.tup (.cons (.lit (.str "argument")) .nil)) .nil)) (.lit (.int 3))) (.blt false .int (.cons (.cmp .Eq (.dget (.var 1) (.lit (.str "came"))) (.var 2)) .nil)))) { D with nx := dSs Γ c_l_leaf_v1_1 D } σ M := rfl
def n_l_leaf_v1 : List Str := ["_law_h", "_law_e", "_law_kind", "_law_some", "_law_k"]
def c_l_call_v2_6 : Ss := .cons (.ret (.tup (.cons (.lit (.str "through")) (.cons (.call 50 (.cons (.var 0) (.cons (.var 1) (.cons (.lit (.str "way")) (.cons (.bin .Sub false (.var 2) (.lit (.int 1))) .nil))))) (.cons (.call 49 (.cons (.var 0) (.cons (.var 1) (.cons (.bin .Sub false (.var 2) (.lit (.int 1))) .nil)))) .nil))))) .nil
theorem st_l_call_v2_6 {Γ : Gam} {D : Dw} {σ : Sw} {M : Mh} : dSs Γ c_l_call_v2_6 D σ M = dSc Γ (.ret (.tup (.cons (.lit (.str "through")) (.cons (.call 50 (.cons (.var 0) (.cons (.var 1) (.cons (.lit (.str "way")) (.cons (.bin .Sub false (.var 2) (.lit (.int 1))) .nil))))) (.cons (.call 49 (.cons (.var 0) (.cons (.var 1) (.cons (.bin .Sub false (.var 2) (.lit (.int 1))) .nil)))) .nil))))) { D with nx := dSs Γ .nil D } σ M := rfl
def c_l_call_v2_7 : Ss := .cons (.asg (.name 4) (.idx (.lst false (.cons (.lit (.str "number")) (.cons (.lit (.str "way")) .nil))) (.call 45 (.cons (.var 0) (.cons (.lit (.int 2)) .nil))))) .nil
theorem st_l_call_v2_7 {Γ : Gam} {D : Dw} {σ : Sw} {M : Mh} : dSs Γ c_l_call_v2_7 D σ M = dSc Γ (.asg (.name 4) (.idx (.lst false (.cons (.lit (.str "number")) (.cons (.lit (.str "way")) .nil))) (.call 45 (.cons (.var 0) (.cons (.lit (.int 2)) .nil))))) { D with nx := dSs Γ .nil D } σ M := rfl
def c_l_call_v2_5 : Ss := .cons (.ret (.tup (.cons (.lit (.str "call")) (.cons (.var 3) (.cons (.var 5) .nil))))) .nil
theorem st_l_call_v2_5 {Γ : Gam} {D : Dw} {σ : Sw} {M : Mh} : dSs Γ c_l_call_v2_5 D σ M = dSc Γ (.ret (.tup (.cons (.lit (.str "call")) (.cons (.var 3) (.cons (.var 5) .nil))))) { D with nx := dSs Γ .nil D } σ M := rfl
def c_l_call_v2_4 : Ss := .cons (.asg (.name 5) (.ite (.cmp .Eq (.var 4) (.lit (.str "number"))) (.call 49 (.cons (.var 0) (.cons (.var 1) (.cons (.bin .Sub false (.var 2) (.lit (.int 1))) .nil)))) (.call 50 (.cons (.var 0) (.cons (.var 1) (.cons (.lit (.str "way")) (.cons (.bin .Sub false (.var 2) (.lit (.int 1))) .nil))))))) c_l_call_v2_5
theorem st_l_call_v2_4 {Γ : Gam} {D : Dw} {σ : Sw} {M : Mh} : dSs Γ c_l_call_v2_4 D σ M = dSc Γ (.asg (.name 5) (.ite (.cmp .Eq (.var 4) (.lit (.str "number"))) (.call 49 (.cons (.var 0) (.cons (.var 1) (.cons (.bin .Sub false (.var 2) (.lit (.int 1))) .nil)))) (.call 50 (.cons (.var 0) (.cons (.var 1) (.cons (.lit (.str "way")) (.cons (.bin .Sub false (.var 2) (.lit (.int 1))) .nil))))))) { D with nx := dSs Γ c_l_call_v2_5 D } σ M := rfl
def c_l_call_v2_3 : Ss := .cons (.ite (.cmp .Eq (.call 45 (.cons (.var 0) (.cons (.lit (.int 12)) .nil))) (.lit (.int 0))) c_l_call_v2_7 .nil) c_l_call_v2_4
theorem st_l_call_v2_3 {Γ : Gam} {D : Dw} {σ : Sw} {M : Mh} : dSs Γ c_l_call_v2_3 D σ M = dSc Γ (.ite (.cmp .Eq (.call 45 (.cons (.var 0) (.cons (.lit (.int 12)) .nil))) (.lit (.int 0))) c_l_call_v2_7 .nil) { D with nx := dSs Γ c_l_call_v2_4 D } σ M := rfl
def c_l_call_v2_2 : Ss := .cons (.asg (.name 4) (.idx (.dget (.var 1) (.lit (.str "kinds"))) (.var 3))) c_l_call_v2_3
theorem st_l_call_v2_2 {Γ : Gam} {D : Dw} {σ : Sw} {M : Mh} : dSs Γ c_l_call_v2_2 D σ M = dSc Γ (.asg (.name 4) (.idx (.dget (.var 1) (.lit (.str "kinds"))) (.var 3))) { D with nx := dSs Γ c_l_call_v2_3 D } σ M := rfl
def c_l_call_v2_1 : Ss := .cons (.asg (.name 3) (.call 45 (.cons (.var 0) (.cons (.blt false .len (.cons (.dget (.var 1) (.lit (.str "kinds"))) .nil)) .nil)))) c_l_call_v2_2
theorem st_l_call_v2_1 {Γ : Gam} {D : Dw} {σ : Sw} {M : Mh} : dSs Γ c_l_call_v2_1 D σ M = dSc Γ (.asg (.name 3) (.call 45 (.cons (.var 0) (.cons (.blt false .len (.cons (.dget (.var 1) (.lit (.str "kinds"))) .nil)) .nil)))) { D with nx := dSs Γ c_l_call_v2_2 D } σ M := rfl
def c_l_call_v2 : Ss := .cons (.ite (.cmp .Eq (.call 45 (.cons (.var 0) (.cons (.lit (.int 3)) .nil))) (.lit (.int 0))) c_l_call_v2_6 .nil) c_l_call_v2_1
theorem st_l_call_v2 {Γ : Gam} {D : Dw} {σ : Sw} {M : Mh} : dSs Γ c_l_call_v2 D σ M = dSc Γ (.ite (.cmp .Eq (.call 45 (.cons (.var 0) (.cons (.lit (.int 3)) .nil))) (.lit (.int 0))) c_l_call_v2_6 .nil) { D with nx := dSs Γ c_l_call_v2_1 D } σ M := rfl
def n_l_call_v2 : List Str := ["_law_h", "_law_e", "_law_deep", "_law_called", "_law_kind", "_law_arm"]
def c_l_less_2 : Ss := .cons (.ret (.tup (.cons (.lit (.str "less")) (.cons (.tup (.cons (.lit (.str "argument")) .nil)) (.cons (.tup (.cons (.lit (.str "num")) (.cons (.lit (.int 1)) .nil))) .nil))))) .nil
theorem st_l_less_2 {Γ : Gam} {D : Dw} {σ : Sw} {M : Mh} : dSs Γ c_l_less_2 D σ M = dSc Γ (.ret (.tup (.cons (.lit (.str "less")) (.cons (.tup (.cons (.lit (.str "argument")) .nil)) (.cons (.tup (.cons (.lit (.str "num")) (.cons (.lit (.int 1)) .nil))) .nil))))) { D with nx := dSs Γ .nil D } σ M := rfl
def c_l_less_1 : Ss := .cons (.ret (.call 50 (.cons (.var 0) (.cons (.var 1) (.cons (.lit (.str "number")) (.cons (.var 2) .nil)))))) .nil
theorem st_l_less_1 {Γ : Gam} {D : Dw} {σ : Sw} {M : Mh} : dSs Γ c_l_less_1 D σ M = dSc Γ (.ret (.call 50 (.cons (.var 0) (.cons (.var 1) (.cons (.lit (.str "number")) (.cons (.var 2) .nil)))))) { D with nx := dSs Γ .nil D } σ M := rfl
def c_l_less : Ss := .cons (.ite (.bool true (.cons (.cmp .Eq (.dget (.var 1) (.lit (.str "came"))) (.lit (.str "number"))) (.cons (.cmp .Gt (.call 45 (.cons (.var 0) (.cons (.lit (.int 4)) .nil))) (.lit (.int 0))) .nil))) c_l_less_2 .nil) c_l_less_1
theorem st_l_less {Γ : Gam} {D : Dw} {σ : Sw} {M : Mh} : dSs Γ c_l_less D σ M = dSc Γ (.ite (.bool true (.cons (.cmp .Eq (.dget (.var 1) (.lit (.str "came"))) (.lit (.str "number"))) (.cons (.cmp .Gt (.call 45 (.cons (.var 0) (.cons (.lit (.int 4)) .nil))) (.lit (.int 0))) .nil))) c_l_less_2 .nil) { D with nx := dSs Γ c_l_less_1 D } σ M := rfl
def n_l_less : List Str := ["_law_h", "_law_e", "_law_deep"]
def c_l_body_v1_9 : Ss := .cons (.ret (.call 47 (.cons (.var 0) (.cons (.var 1) (.cons (.var 2) .nil))))) .nil
theorem st_l_body_v1_9 {Γ : Gam} {D : Dw} {σ : Sw} {M : Mh} : dSs Γ c_l_body_v1_9 D σ M = dSc Γ (.ret (.call 47 (.cons (.var 0) (.cons (.var 1) (.cons (.var 2) .nil))))) { D with nx := dSs Γ .nil D } σ M := rfl
def c_l_body_v1_11 : Ss := .cons (.ret (.tup (.cons (.lit (.str "if")) (.cons (.var 6) (.cons (.call 50 (.cons (.var 0) (.cons (.var 1) (.cons (.var 2) (.cons (.bin .Sub false (.var 3) (.lit (.int 1))) .nil))))) (.cons (.call 50 (.cons (.var 0) (.cons (.var 1) (.cons (.var 2) (.cons (.bin .Sub false (.var 3) (.lit (.int 1))) .nil))))) .nil)))))) .nil
theorem st_l_body_v1_11 {Γ : Gam} {D : Dw} {σ : Sw} {M : Mh} : dSs Γ c_l_body_v1_11 D σ M = dSc Γ (.ret (.tup (.cons (.lit (.str "if")) (.cons (.var 6) (.cons (.call 50 (.cons (.var 0) (.cons (.var 1) (.cons (.var 2) (.cons (.bin .Sub false (.var 3) (.lit (.int 1))) .nil))))) (.cons (.call 50 (.cons (.var 0) (.cons (.var 1) (.cons (.var 2) (.cons (.bin .Sub false (.var 3) (.lit (.int 1))) .nil))))) .nil)))))) { D with nx := dSs Γ .nil D } σ M := rfl
def c_l_body_v1_10 : Ss := .cons (.asg (.name 6) (.call 50 (.cons (.var 0) (.cons (.var 1) (.cons (.lit (.str "number")) (.cons (.bin .Sub false (.var 3) (.lit (.int 1))) .nil)))))) c_l_body_v1_11
theorem st_l_body_v1_10 {Γ : Gam} {D : Dw} {σ : Sw} {M : Mh} : dSs Γ c_l_body_v1_10 D σ M = dSc Γ (.asg (.name 6) (.call 50 (.cons (.var 0) (.cons (.var 1) (.cons (.lit (.str "number")) (.cons (.bin .Sub false (.var 3) (.lit (.int 1))) .nil)))))) { D with nx := dSs Γ c_l_body_v1_11 D } σ M := rfl
def c_l_body_v1_13 : Ss := .cons (.ret (.tup (.cons (.lit (.str "then")) (.cons (.call 50 (.cons (.var 0) (.cons (.var 1) (.cons (.var 7) (.cons (.bin .Sub false (.var 3) (.lit (.int 1))) .nil))))) (.cons (.call 50 (.cons (.var 0) (.cons (.var 1) (.cons (.var 2) (.cons (.bin .Sub false (.var 3) (.lit (.int 1))) .nil))))) .nil))))) .nil
theorem st_l_body_v1_13 {Γ : Gam} {D : Dw} {σ : Sw} {M : Mh} : dSs Γ c_l_body_v1_13 D σ M = dSc Γ (.ret (.tup (.cons (.lit (.str "then")) (.cons (.call 50 (.cons (.var 0) (.cons (.var 1) (.cons (.var 7) (.cons (.bin .Sub false (.var 3) (.lit (.int 1))) .nil))))) (.cons (.call 50 (.cons (.var 0) (.cons (.var 1) (.cons (.var 2) (.cons (.bin .Sub false (.var 3) (.lit (.int 1))) .nil))))) .nil))))) { D with nx := dSs Γ .nil D } σ M := rfl
def c_l_body_v1_12 : Ss := .cons (.asg (.name 7) (.idx (.lst false (.cons (.lit (.str "number")) (.cons (.lit (.str "way")) .nil))) (.call 45 (.cons (.var 0) (.cons (.lit (.int 2)) .nil))))) c_l_body_v1_13
theorem st_l_body_v1_12 {Γ : Gam} {D : Dw} {σ : Sw} {M : Mh} : dSs Γ c_l_body_v1_12 D σ M = dSc Γ (.asg (.name 7) (.idx (.lst false (.cons (.lit (.str "number")) (.cons (.lit (.str "way")) .nil))) (.call 45 (.cons (.var 0) (.cons (.lit (.int 2)) .nil))))) { D with nx := dSs Γ c_l_body_v1_13 D } σ M := rfl
def c_l_body_v1_14 : Ss := .cons (.ret (.call 47 (.cons (.var 0) (.cons (.var 1) (.cons (.var 2) .nil))))) .nil
theorem st_l_body_v1_14 {Γ : Gam} {D : Dw} {σ : Sw} {M : Mh} : dSs Γ c_l_body_v1_14 D σ M = dSc Γ (.ret (.call 47 (.cons (.var 0) (.cons (.var 1) (.cons (.var 2) .nil))))) { D with nx := dSs Γ .nil D } σ M := rfl
def c_l_body_v1_15 : Ss := .cons (.ret (.call 48 (.cons (.var 0) (.cons (.var 1) (.cons (.var 3) .nil))))) .nil
theorem st_l_body_v1_15 {Γ : Gam} {D : Dw} {σ : Sw} {M : Mh} : dSs Γ c_l_body_v1_15 D σ M = dSc Γ (.ret (.call 48 (.cons (.var 0) (.cons (.var 1) (.cons (.var 3) .nil))))) { D with nx := dSs Γ .nil D } σ M := rfl
def c_l_body_v1_16 : Ss := .cons (.ret (.tup (.cons (.lit (.str "say")) (.cons (.call 50 (.cons (.var 0) (.cons (.var 1) (.cons (.lit (.str "number")) (.cons (.bin .Sub false (.var 3) (.lit (.int 1))) .nil))))) .nil)))) .nil
theorem st_l_body_v1_16 {Γ : Gam} {D : Dw} {σ : Sw} {M : Mh} : dSs Γ c_l_body_v1_16 D σ M = dSc Γ (.ret (.tup (.cons (.lit (.str "say")) (.cons (.call 50 (.cons (.var 0) (.cons (.var 1) (.cons (.lit (.str "number")) (.cons (.bin .Sub false (.var 3) (.lit (.int 1))) .nil))))) .nil)))) { D with nx := dSs Γ .nil D } σ M := rfl
def c_l_body_v1_8 : Ss := .cons (.ret (.tup (.cons (.var 5) (.cons (.call 50 (.cons (.var 0) (.cons (.var 1) (.cons (.lit (.str "number")) (.cons (.bin .Sub false (.var 3) (.lit (.int 1))) .nil))))) (.cons (.call 50 (.cons (.var 0) (.cons (.var 1) (.cons (.lit (.str "number")) (.cons (.bin .Sub false (.var 3) (.lit (.int 1))) .nil))))) .nil))))) .nil
theorem st_l_body_v1_8 {Γ : Gam} {D : Dw} {σ : Sw} {M : Mh} : dSs Γ c_l_body_v1_8 D σ M = dSc Γ (.ret (.tup (.cons (.var 5) (.cons (.call 50 (.cons (.var 0) (.cons (.var 1) (.cons (.lit (.str "number")) (.cons (.bin .Sub false (.var 3) (.lit (.int 1))) .nil))))) (.cons (.call 50 (.cons (.var 0) (.cons (.var 1) (.cons (.lit (.str "number")) (.cons (.bin .Sub false (.var 3) (.lit (.int 1))) .nil))))) .nil))))) { D with nx := dSs Γ .nil D } σ M := rfl
def c_l_body_v1_7 : Ss := .cons (.asg (.name 5) (.idx (.lst false (.cons (.lit (.str "plus")) (.cons (.lit (.str "less")) (.cons (.lit (.str "times")) .nil)))) (.call 45 (.cons (.var 0) (.cons (.lit (.int 3)) .nil))))) c_l_body_v1_8
theorem st_l_body_v1_7 {Γ : Gam} {D : Dw} {σ : Sw} {M : Mh} : dSs Γ c_l_body_v1_7 D σ M = dSc Γ (.asg (.name 5) (.idx (.lst false (.cons (.lit (.str "plus")) (.cons (.lit (.str "less")) (.cons (.lit (.str "times")) .nil)))) (.call 45 (.cons (.var 0) (.cons (.lit (.int 3)) .nil))))) { D with nx := dSs Γ c_l_body_v1_8 D } σ M := rfl
def c_l_body_v1_6 : Ss := .cons (.ite (.cmp .Eq (.var 4) (.lit (.int 8))) c_l_body_v1_16 .nil) c_l_body_v1_7
theorem st_l_body_v1_6 {Γ : Gam} {D : Dw} {σ : Sw} {M : Mh} : dSs Γ c_l_body_v1_6 D σ M = dSc Γ (.ite (.cmp .Eq (.var 4) (.lit (.int 8))) c_l_body_v1_16 .nil) { D with nx := dSs Γ c_l_body_v1_7 D } σ M := rfl
def c_l_body_v1_5 : Ss := .cons (.ite (.cmp .Lt (.var 4) (.lit (.int 8))) c_l_body_v1_15 .nil) c_l_body_v1_6
theorem st_l_body_v1_5 {Γ : Gam} {D : Dw} {σ : Sw} {M : Mh} : dSs Γ c_l_body_v1_5 D σ M = dSc Γ (.ite (.cmp .Lt (.var 4) (.lit (.int 8))) c_l_body_v1_15 .nil) { D with nx := dSs Γ c_l_body_v1_6 D } σ M := rfl
def c_l_body_v1_4 : Ss := .cons (.ite (.cmp .Eq (.var 2) (.lit (.str "way"))) c_l_body_v1_14 .nil) c_l_body_v1_5
theorem st_l_body_v1_4 {Γ : Gam} {D : Dw} {σ : Sw} {M : Mh} : dSs Γ c_l_body_v1_4 D σ M = dSc Γ (.ite (.cmp .Eq (.var 2) (.lit (.str "way"))) c_l_body_v1_14 .nil) { D with nx := dSs Γ c_l_body_v1_5 D } σ M := rfl
def c_l_body_v1_3 : Ss := .cons (.ite (.cmp .Eq (.var 4) (.lit (.int 3))) c_l_body_v1_12 .nil) c_l_body_v1_4
theorem st_l_body_v1_3 {Γ : Gam} {D : Dw} {σ : Sw} {M : Mh} : dSs Γ c_l_body_v1_3 D σ M = dSc Γ (.ite (.cmp .Eq (.var 4) (.lit (.int 3))) c_l_body_v1_12 .nil) { D with nx := dSs Γ c_l_body_v1_4 D } σ M := rfl
def c_l_body_v1_2 : Ss := .cons (.ite (.cmp .Lt (.var 4) (.lit (.int 3))) c_l_body_v1_10 .nil) c_l_body_v1_3
theorem st_l_body_v1_2 {Γ : Gam} {D : Dw} {σ : Sw} {M : Mh} : dSs Γ c_l_body_v1_2 D σ M = dSc Γ (.ite (.cmp .Lt (.var 4) (.lit (.int 3))) c_l_body_v1_10 .nil) { D with nx := dSs Γ c_l_body_v1_3 D } σ M := rfl
def c_l_body_v1_1 : Ss := .cons (.ite (.bool false (.cons (.cmp .Lt (.var 3) (.lit (.int 1))) (.cons (.cmp .Lt (.var 4) (.lit (.int 2))) .nil))) c_l_body_v1_9 .nil) c_l_body_v1_2
theorem st_l_body_v1_1 {Γ : Gam} {D : Dw} {σ : Sw} {M : Mh} : dSs Γ c_l_body_v1_1 D σ M = dSc Γ (.ite (.bool false (.cons (.cmp .Lt (.var 3) (.lit (.int 1))) (.cons (.cmp .Lt (.var 4) (.lit (.int 2))) .nil))) c_l_body_v1_9 .nil) { D with nx := dSs Γ c_l_body_v1_2 D } σ M := rfl
def c_l_body_v1 : Ss := .cons (.asg (.name 4) (.call 45 (.cons (.var 0) (.cons (.lit (.int 10)) .nil)))) c_l_body_v1_1
theorem st_l_body_v1 {Γ : Gam} {D : Dw} {σ : Sw} {M : Mh} : dSs Γ c_l_body_v1 D σ M = dSc Γ (.asg (.name 4) (.call 45 (.cons (.var 0) (.cons (.lit (.int 10)) .nil)))) { D with nx := dSs Γ c_l_body_v1_1 D } σ M := rfl
def n_l_body_v1 : List Str := ["_law_h", "_law_e", "_law_kind", "_law_deep", "_law_turn", "_law_word", "_law_test", "_law_other"]
theorem Hs.at_ne {a s D : Addr} {M : Mh} (h : Hs a s M) (hD : M D = none) : D ≠ a ∧ D ≠ s := by
  obtain ⟨⟨x, t, cells, h1, h2, _⟩, _⟩ := h
  exact ⟨fun z => (by rw [z, h1] at hD; cases hD), fun z => (by rw [z, h2] at hD; cases hD)⟩
theorem Hs.up {a s D : Addr} {M : Mh} {o : MO} (h : Hs a s M) (h1 : D ≠ a) (h2 : D ≠ s) : Hs a s (mup M D o) := by
  obtain ⟨⟨x, t, cells, h3, h4, h5⟩, ne⟩ := h
  exact ⟨⟨x, t, cells, by rw [mup_off (Ne.symm h1)]; exact h3, by rw [mup_off (Ne.symm h2)]; exact h4, h5⟩, ne⟩
theorem Hs.del {a s D : Addr} {M : Mh} (h : Hs a s M) (h1 : D ≠ a) (h2 : D ≠ s) : Hs a s (mdel M D) := by
  obtain ⟨⟨x, t, cells, h3, h4, h5⟩, ne⟩ := h
  exact ⟨⟨x, t, cells, by unfold mdel; rw [if_neg (Ne.symm h1)]; exact h3, by unfold mdel; rw [if_neg (Ne.symm h2)]; exact h4, h5⟩, ne⟩
theorem use_next (n : Nat) {k : Nat} {i : Int} {a s : Addr} {M : Mh} {Q : QW} {Ex : QX} (hs : Hs a s M) (hi : i = n) (h0 : 0 < n) (h1 : n < 1073741824) (q : ∀ (r : Nat) M', r < n → Hs a s M' → Fr a s M M' → Q (.int r) M') : sp_l_next k [.ref a, .int i] M Q Ex :=
  ⟨a, s, n, by rw [hi], hs, h0, h1, q⟩
theorem lc_nil {own : Bool} {G : Mh → Prop} {g : Tg} {tt : DT} {te : DE} {D : Addr} {σ : Sw} {acc : List W} {M : Mh} {Q : QW} : lcW own G g tt te D σ [] acc M Q = finL own D acc M Q := rfl
theorem lc_rng {a s D : Addr} {G : Mh → Prop} {g : Tg} {te : DE} {σ : Sw} {M0 : Mh} {Q : QW} (P : W → Prop) (hG : ∀ M, G M) (h0 : M0 D = none) (hs0 : Hs a s M0) : ∀ (xs acc : List W) (M : Mh), M D = some (.lst acc) → Hs a s M → Fr a s M0 M → (∀ y ∈ acc, P y) →
    (∀ x ∈ xs, ∀ M1 (K : QW), Hs a s M1 → Fr a s M0 M1 → (∀ y M2, P y → Hs a s M2 → Fr a s M1 M2 → K y M2) → ∃ σ', g.asg x σ = some σ' ∧ te σ' M1 K noX) →
    (∀ ys M2, ys.length = acc.length + xs.length → (∀ y ∈ ys, P y) → Hs a s M2 → Fr a s M0 M2 → Q (.lst ys) M2) → lcW false G g dYes te D σ xs acc M Q
  | [], acc, M, hD, hs, hf, hP, _, q => by
    obtain ⟨n1, n2⟩ := hs0.at_ne h0
    refine ⟨hD, q acc _ (by simp) hP (hs.del n1 n2) fun b o hb h1 h2 => ?_⟩
    unfold mdel
    rw [if_neg (fun z => by rw [z, h0] at hb; cases hb)]
    exact hf b o hb h1 h2
  | x :: xs, acc, M, hD, hs, hf, hP, st, q => by
    obtain ⟨n1, n2⟩ := hs0.at_ne h0
    obtain ⟨σ', e, t⟩ := st x (by simp) M (fun y M2 => M2 D = some (.lst acc) ∧ G (mup M2 D (.lst (acc ++ [y]))) ∧ lcW false G g dYes te D σ xs (acc ++ [y]) (mup M2 D (.lst (acc ++ [y]))) Q) hs hf fun y M2 py hs2 fr => by
      refine ⟨fr D _ hD n1 n2, hG _, lc_rng P hG h0 hs0 xs (acc ++ [y]) _ mup_at (hs2.up n1 n2) (fun b o hb h1 h2 => ?_) (fun z hz => ?_) (fun z hz => st z (List.mem_cons_of_mem _ hz)) fun ys M2 hl => q ys M2 (by rw [hl, List.length_append, List.length_cons, List.length_cons, List.length_nil]; omega)⟩
      · rw [mup_off (fun z => by rw [z, h0] at hb; cases hb)]
        exact fr b o (hf b o hb h1 h2) h1 h2
      · rcases List.mem_append.mp hz with z1 | z1
        · exact hP z z1
        · rw [List.mem_singleton.mp z1]; exact py
    exact ⟨σ', e, hD, hG _, t⟩
theorem lc_rng0 {a s : Addr} {G : Mh → Prop} {g : Tg} {te : DE} {σ : Sw} {M : Mh} {Q : QW} (P : W → Prop) (hG : ∀ M, G M) (hs : Hs a s M) {xs : List W}
    (st : ∀ x ∈ xs, ∀ M1 (K : QW), Hs a s M1 → Fr a s M M1 → (∀ y M2, P y → Hs a s M2 → Fr a s M1 M2 → K y M2) → ∃ σ', g.asg x σ = some σ' ∧ te σ' M1 K noX)
    (q : ∀ ys M2, ys.length = xs.length → (∀ y ∈ ys, P y) → Hs a s M2 → Fr a s M M2 → Q (.lst ys) M2) : ∀ D, M D = none → lcW false G g dYes te D σ xs [] (mup M D (.lst [])) Q := fun D hD => by
  obtain ⟨n1, n2⟩ := hs.at_ne hD
  exact lc_rng P hG hD hs xs [] _ mup_at (hs.up n1 n2) (fun b o hb h1 h2 => by rw [mup_off (fun z => by rw [z, hD] at hb; cases hb)]; exact hb) (by simp) st fun ys M2 hl => q ys M2 (by simpa using hl)
def kW (b : Bool) : W := .str (if b then "number" else "way")
structure Ev where
  came : Bool
  plain : List Nat
  kinds : List Bool
def Ev.enc (e : Ev) : W := .dk [.inr "came", .inr "plain", .inr "kinds"] [kW e.came, .lst (e.plain.map fun f : Nat => W.int f), .lst (e.kinds.map kW)]
structure Ev.Ok (e : Ev) : Prop where
  ne : 1 ≤ e.plain.length
  lt : ∀ f ∈ e.plain, f < e.kinds.length
  p8 : e.plain.length ≤ 8
  l1 : 1 ≤ e.kinds.length
  l8 : e.kinds.length ≤ 8
theorem dl_came {M : Mh} {e : Ev} : dlook M e.enc (.str "came") = some (some (kW e.came)) := rfl
theorem dl_plain {M : Mh} {e : Ev} : dlook M e.enc (.str "plain") = some (some (.lst (e.plain.map fun f : Nat => W.int f))) := rfl
theorem dl_kinds {M : Mh} {e : Ev} : dlook M e.enc (.str "kinds") = some (some (.lst (e.kinds.map kW))) := rfl
theorem way_number : (("way" : Str) = "number") = False := eq_false (by decide)
theorem number_way : (("number" : Str) = "way") = False := eq_false (by decide)
theorem kW_t : kW true = .str "number" := rfl
theorem kW_f : kW false = .str "way" := rfl
theorem kW_number {b : Bool} {M : Mh} {Q : QW} : eqV_ (kW b) (.str "number") M Q = Q (.bl b) M := by
  cases b
  · rw [kW_f, eq_str]; simp [way_number]
  · rw [kW_t, eq_str]; simp
theorem kW_way {b : Bool} {M : Mh} {Q : QW} : eqV_ (kW b) (.str "way") M Q = Q (.bl (!b)) M := by
  cases b
  · rw [kW_f, eq_str]; simp
  · rw [kW_t, eq_str]; simp [number_way]
theorem kW_kW {b c : Bool} {M : Mh} {Q : QW} : eqV_ (kW b) (kW c) M Q = Q (.bl (b == c)) M := by
  cases c
  · rw [kW_f, kW_way]; cases b <;> rfl
  · rw [kW_t, kW_number]; cases b <;> rfl
theorem pick {ws : List W} {r : Nat} (h : r < ws.length) : atI ws (r : Int) = some ws[r] := atN (List.getElem?_eq_getElem h)
def BdIn (m h : Nat) (w : W) : Prop := ∃ b : Bd, w = b.enc ∧ b.ok m ∧ b.ht ≤ h
theorem BdIn.mono {m h h' : Nat} {w : W} (x : BdIn m h w) (l : h ≤ h') : BdIn m h' w := by
  obtain ⟨b, h1, h2, h3⟩ := x
  exact ⟨b, h1, h2, Nat.le_trans h3 l⟩
def LfIn (m : Nat) (w : W) : Prop := ∃ b : Bd, w = b.enc ∧ b.ok m ∧ b.ht = 0 ∧ b.cnt = 1
theorem LfIn.bd {m h : Nat} {w : W} (x : LfIn m w) : BdIn m h w := by
  obtain ⟨b, h1, h2, h3, _⟩ := x
  exact ⟨b, h1, h2, by omega⟩
def sp_l_leaf_v1 : Nat → Wp := fun k ws M Q _ => ∃ (a s : Addr) (e : Ev) (kd : Bool), ws = [.ref a, e.enc, kW kd] ∧ Hs a s M ∧ e.Ok ∧ 1 ≤ k ∧ ∀ w M', LfIn e.kinds.length w → Hs a s M' → Fr a s M M' → Q w M'
theorem keep_l_leaf_v1 {Γ : Gam} {k : Nat} (f_l_next : Γ.fn 45 = dn sp_l_next k) : KeepC Γ n_l_leaf_v1 3 c_l_leaf_v1 (sp_l_leaf_v1 k) := by
  rintro ws M Q Ex ⟨a, s, e, kd, rfl, hs, ok, hk, q⟩
  refine ⟨rfl, ?_⟩
  show dSs Γ _ _ [some (.ref a), some e.enc, some (kW kd), none, none] M
  cases k with
  | zero => omega
  | succ k =>
  simp only [st_l_leaf_v1, dX, dXs, dXo, dXi, dSc, d2, d1, dN, dVar, dC, dTup, dLst, dTru, dB, dChain, dIte, dNotV, dNotT, dJoinV, dJoinT, dNil, dCons, dCall, dBM, dIsi, dIsi2, dAttr, dMeth, dNew, dDget, dDin, dDnew, dKidx, dKin, dKget, dDisp, dFrz, dSlice, dNoPart, dPart, dAsg, dExpr, dRet, dIf, dFld, dSet, dDput, dNever, dFor, dNext, binP, cmpP, iSeqD, iRg1, iRg2, iZip, iEnumD, Tg.asg, setAll, List.set, List.map_cons, List.map_nil, subW, modW, fdivW, powW, ltW, leW, gtW, geW, newL, finD, frzO, tupW, listW, oneW, twoW, BI.w, ints_eq, add_int, add_str, add_tup, add_lst, mul_int, mul_lst, idx_tup, idx_lst, idx_scr, idx_str, len_tup, len_lst, len_scr, len_str, sl_tup, sl_lst, neg_int, str_int, str_str, int_int, int_bl, is_non, is_int, is_str, is_tup, is_lst, is_bl, is_bb, eq_int, eq_str, eq_bl, ne_int, ne_str, ne_bl, eq_nilL, ty_non, ty_bl, ty_int, ty_str, ty_tup, ty_lst, ty_scr, ty_dk, Ty.sub, tr_bl, tr_non, tr_int, tr_str, sv_lst, sv_tup, sv_scr, lv_lst, at0, at1, at2, cut1, len0, ss_nil, for_nil, for_cons, pairs_cons, pairs_nil, pairs_nil', walk_lst, walk_scr, walk_tup, walk_str, walk_ref, List.getElem?_cons_zero, List.getElem?_cons_succ, List.length_cons, List.length_nil, List.append_nil, List.cons_append, List.nil_append, Option.some.injEq, W.int.injEq, W.str.injEq, W.bl.injEq, W.tup.injEq, W.lst.injEq, W.ref.injEq, List.cons.injEq, Option.map_some, exists_and_left, exists_and_right, exists_eq_left, exists_eq_left', exists_eq, exists_eq', exists_eq_right, exists_eq_right', and_true, true_and, and_assoc, reduceIte, reduceCtorEq, decide_true, decide_false, decide_eq_true_eq, decide_eq_false_iff_not, Bool.not_eq_true', Bool.not_eq_false', Bool.true_eq_false, Bool.false_eq_true, if_true, if_false, Bool.not_true, Bool.not_false, ite_true, ite_false, Int.cast_ofNat_Int, Int.reduceAdd, Int.reduceSub, Int.reduceEq, Int.reduceLT, Int.reduceLE, Int.natCast_add, Nat.reduceEqDiff, Nat.reduceAdd, Nat.add_zero, Nat.zero_add, Nat.succ_ne_zero, not_true_eq_false, not_false_eq_true, Option.getD_some, Option.getD_none, dl_came, kW_kW]
  have key : ∀ L : List W, L.length ≤ 3 → (∀ w ∈ L, LfIn e.kinds.length w) → dSs Γ c_l_leaf_v1_1 { nx := fun x M' => Q W.non M', rt := Q, ex := Ex } [some (W.ref a), some e.enc, some (kW kd), some (.lst L), none] M := by
    intro L hL hP
    have fin : ∀ (L : List W) (x : Option W) M', 1 ≤ L.length → L.length ≤ 5 → (∀ w ∈ L, LfIn e.kinds.length w) → Hs a s M' → Fr a s M M' → dSs Γ c_l_leaf_v1_2 { nx := fun x M' => Q W.non M', rt := Q, ex := Ex } [some (W.ref a), some e.enc, some (kW kd), some (.lst L), x] M' := by
      intro L x M' h1 h5 hP hs1 fr
      simp only [st_l_leaf_v1_2, dX, dXs, dXo, dXi, dSc, d2, d1, dN, dVar, dC, dTup, dLst, dTru, dB, dChain, dIte, dNotV, dNotT, dJoinV, dJoinT, dNil, dCons, dCall, dBM, dIsi, dIsi2, dAttr, dMeth, dNew, dDget, dDin, dDnew, dKidx, dKin, dKget, dDisp, dFrz, dSlice, dNoPart, dPart, dAsg, dExpr, dRet, dIf, dFld, dSet, dDput, dNever, dFor, dNext, binP, cmpP, iSeqD, iRg1, iRg2, iZip, iEnumD, Tg.asg, setAll, List.set, List.map_cons, List.map_nil, subW, modW, fdivW, powW, ltW, leW, gtW, geW, newL, finD, frzO, tupW, listW, oneW, twoW, BI.w, ints_eq, add_int, add_str, add_tup, add_lst, mul_int, mul_lst, idx_tup, idx_lst, idx_scr, idx_str, len_tup, len_lst, len_scr, len_str, sl_tup, sl_lst, neg_int, str_int, str_str, int_int, int_bl, is_non, is_int, is_str, is_tup, is_lst, is_bl, is_bb, eq_int, eq_str, eq_bl, ne_int, ne_str, ne_bl, eq_nilL, ty_non, ty_bl, ty_int, ty_str, ty_tup, ty_lst, ty_scr, ty_dk, Ty.sub, tr_bl, tr_non, tr_int, tr_str, sv_lst, sv_tup, sv_scr, lv_lst, at0, at1, at2, cut1, len0, ss_nil, for_nil, for_cons, pairs_cons, pairs_nil, pairs_nil', walk_lst, walk_scr, walk_tup, walk_str, walk_ref, List.getElem?_cons_zero, List.getElem?_cons_succ, List.length_cons, List.length_nil, List.append_nil, List.cons_append, List.nil_append, Option.some.injEq, W.int.injEq, W.str.injEq, W.bl.injEq, W.tup.injEq, W.lst.injEq, W.ref.injEq, List.cons.injEq, Option.map_some, exists_and_left, exists_and_right, exists_eq_left, exists_eq_left', exists_eq, exists_eq', exists_eq_right, exists_eq_right', and_true, true_and, and_assoc, reduceIte, reduceCtorEq, decide_true, decide_false, decide_eq_true_eq, decide_eq_false_iff_not, Bool.not_eq_true', Bool.not_eq_false', Bool.true_eq_false, Bool.false_eq_true, if_true, if_false, Bool.not_true, Bool.not_false, ite_true, ite_false, Int.cast_ofNat_Int, Int.reduceAdd, Int.reduceSub, Int.reduceEq, Int.reduceLT, Int.reduceLE, Int.natCast_add, Nat.reduceEqDiff, Nat.reduceAdd, Nat.add_zero, Nat.zero_add, Nat.succ_ne_zero, not_true_eq_false, not_false_eq_true, Option.getD_some, Option.getD_none, f_l_next, dn]
      refine use_next L.length hs1 rfl (by omega) (by omega) fun r M2 hr hs2 fr2 => ?_
      simp only [dX, dXs, dXo, dXi, dSc, d2, d1, dN, dVar, dC, dTup, dLst, dTru, dB, dChain, dIte, dNotV, dNotT, dJoinV, dJoinT, dNil, dCons, dCall, dBM, dIsi, dIsi2, dAttr, dMeth, dNew, dDget, dDin, dDnew, dKidx, dKin, dKget, dDisp, dFrz, dSlice, dNoPart, dPart, dAsg, dExpr, dRet, dIf, dFld, dSet, dDput, dNever, dFor, dNext, binP, cmpP, iSeqD, iRg1, iRg2, iZip, iEnumD, Tg.asg, setAll, List.set, List.map_cons, List.map_nil, subW, modW, fdivW, powW, ltW, leW, gtW, geW, newL, finD, frzO, tupW, listW, oneW, twoW, BI.w, ints_eq, add_int, add_str, add_tup, add_lst, mul_int, mul_lst, idx_tup, idx_lst, idx_scr, idx_str, len_tup, len_lst, len_scr, len_str, sl_tup, sl_lst, neg_int, str_int, str_str, int_int, int_bl, is_non, is_int, is_str, is_tup, is_lst, is_bl, is_bb, eq_int, eq_str, eq_bl, ne_int, ne_str, ne_bl, eq_nilL, ty_non, ty_bl, ty_int, ty_str, ty_tup, ty_lst, ty_scr, ty_dk, Ty.sub, tr_bl, tr_non, tr_int, tr_str, sv_lst, sv_tup, sv_scr, lv_lst, at0, at1, at2, cut1, len0, ss_nil, for_nil, for_cons, pairs_cons, pairs_nil, pairs_nil', walk_lst, walk_scr, walk_tup, walk_str, walk_ref, List.getElem?_cons_zero, List.getElem?_cons_succ, List.length_cons, List.length_nil, List.append_nil, List.cons_append, List.nil_append, Option.some.injEq, W.int.injEq, W.str.injEq, W.bl.injEq, W.tup.injEq, W.lst.injEq, W.ref.injEq, List.cons.injEq, Option.map_some, exists_and_left, exists_and_right, exists_eq_left, exists_eq_left', exists_eq, exists_eq', exists_eq_right, exists_eq_right', and_true, true_and, and_assoc, reduceIte, reduceCtorEq, decide_true, decide_false, decide_eq_true_eq, decide_eq_false_iff_not, Bool.not_eq_true', Bool.not_eq_false', Bool.true_eq_false, Bool.false_eq_true, if_true, if_false, Bool.not_true, Bool.not_false, ite_true, ite_false, Int.cast_ofNat_Int, Int.reduceAdd, Int.reduceSub, Int.reduceEq, Int.reduceLT, Int.reduceLE, Int.natCast_add, Nat.reduceEqDiff, Nat.reduceAdd, Nat.add_zero, Nat.zero_add, Nat.succ_ne_zero, not_true_eq_false, not_false_eq_true, Option.getD_some, Option.getD_none, pick hr]
      exact q _ _ (hP _ (List.getElem_mem hr)) hs2 (fr.trans fr2)
    simp only [st_l_leaf_v1_1, st_l_leaf_v1_3, st_l_leaf_v1_4, dX, dXs, dXo, dXi, dSc, d2, d1, dN, dVar, dC, dTup, dLst, dTru, dB, dChain, dIte, dNotV, dNotT, dJoinV, dJoinT, dNil, dCons, dCall, dBM, dIsi, dIsi2, dAttr, dMeth, dNew, dDget, dDin, dDnew, dKidx, dKin, dKget, dDisp, dFrz, dSlice, dNoPart, dPart, dAsg, dExpr, dRet, dIf, dFld, dSet, dDput, dNever, dFor, dNext, binP, cmpP, iSeqD, iRg1, iRg2, iZip, iEnumD, Tg.asg, setAll, List.set, List.map_cons, List.map_nil, subW, modW, fdivW, powW, ltW, leW, gtW, geW, newL, finD, frzO, tupW, listW, oneW, twoW, BI.w, ints_eq, add_int, add_str, add_tup, add_lst, mul_int, mul_lst, idx_tup, idx_lst, idx_scr, idx_str, len_tup, len_lst, len_scr, len_str, sl_tup, sl_lst, neg_int, str_int, str_str, int_int, int_bl, is_non, is_int, is_str, is_tup, is_lst, is_bl, is_bb, eq_int, eq_str, eq_bl, ne_int, ne_str, ne_bl, eq_nilL, ty_non, ty_bl, ty_int, ty_str, ty_tup, ty_lst, ty_scr, ty_dk, Ty.sub, tr_bl, tr_non, tr_int, tr_str, sv_lst, sv_tup, sv_scr, lv_lst, at0, at1, at2, cut1, len0, ss_nil, for_nil, for_cons, pairs_cons, pairs_nil, pairs_nil', walk_lst, walk_scr, walk_tup, walk_str, walk_ref, List.getElem?_cons_zero, List.getElem?_cons_succ, List.length_cons, List.length_nil, List.append_nil, List.cons_append, List.nil_append, Option.some.injEq, W.int.injEq, W.str.injEq, W.bl.injEq, W.tup.injEq, W.lst.injEq, W.ref.injEq, List.cons.injEq, Option.map_some, exists_and_left, exists_and_right, exists_eq_left, exists_eq_left', exists_eq, exists_eq', exists_eq_right, exists_eq_right', and_true, true_and, and_assoc, reduceIte, reduceCtorEq, decide_true, decide_false, decide_eq_true_eq, decide_eq_false_iff_not, Bool.not_eq_true', Bool.not_eq_false', Bool.true_eq_false, Bool.false_eq_true, if_true, if_false, Bool.not_true, Bool.not_false, ite_true, ite_false, Int.cast_ofNat_Int, Int.reduceAdd, Int.reduceSub, Int.reduceEq, Int.reduceLT, Int.reduceLE, Int.natCast_add, Nat.reduceEqDiff, Nat.reduceAdd, Nat.add_zero, Nat.zero_add, Nat.succ_ne_zero, not_true_eq_false, not_false_eq_true, Option.getD_some, Option.getD_none, kW_number, f_l_next, dn]
    by_cases h : kd = true
    · simp only [h, if_true]
      refine use_next 4 hs rfl (by decide) (by decide) fun r1 M1 hr1 hs1 fr1 => ?_
      refine use_next 100 hs1 rfl (by decide) (by decide) fun r2 M2 hr2 hs2 fr2 => ?_
      refine ⟨by decide, use_next 2 hs2 rfl (by decide) (by decide) fun r3 M3 hr3 hs3 fr3 => ?_⟩
      obtain ⟨r4, h4, hr4⟩ : ∃ r4 : Nat, atI [W.int r1, W.int r2] (r3 : Int) = some (.int r4) ∧ r4 ≤ 99 := by
        cases r3 with
        | zero => exact ⟨r1, rfl, by omega⟩
        | succ r3 => cases r3 with
          | zero => exact ⟨r2, rfl, by omega⟩
          | succ r3 => omega
      simp only [dX, dXs, dXo, dXi, dSc, d2, d1, dN, dVar, dC, dTup, dLst, dTru, dB, dChain, dIte, dNotV, dNotT, dJoinV, dJoinT, dNil, dCons, dCall, dBM, dIsi, dIsi2, dAttr, dMeth, dNew, dDget, dDin, dDnew, dKidx, dKin, dKget, dDisp, dFrz, dSlice, dNoPart, dPart, dAsg, dExpr, dRet, dIf, dFld, dSet, dDput, dNever, dFor, dNext, binP, cmpP, iSeqD, iRg1, iRg2, iZip, iEnumD, Tg.asg, setAll, List.set, List.map_cons, List.map_nil, subW, modW, fdivW, powW, ltW, leW, gtW, geW, newL, finD, frzO, tupW, listW, oneW, twoW, BI.w, ints_eq, add_int, add_str, add_tup, add_lst, mul_int, mul_lst, idx_tup, idx_lst, idx_scr, idx_str, len_tup, len_lst, len_scr, len_str, sl_tup, sl_lst, neg_int, str_int, str_str, int_int, int_bl, is_non, is_int, is_str, is_tup, is_lst, is_bl, is_bb, eq_int, eq_str, eq_bl, ne_int, ne_str, ne_bl, eq_nilL, ty_non, ty_bl, ty_int, ty_str, ty_tup, ty_lst, ty_scr, ty_dk, Ty.sub, tr_bl, tr_non, tr_int, tr_str, sv_lst, sv_tup, sv_scr, lv_lst, at0, at1, at2, cut1, len0, ss_nil, for_nil, for_cons, pairs_cons, pairs_nil, pairs_nil', walk_lst, walk_scr, walk_tup, walk_str, walk_ref, List.getElem?_cons_zero, List.getElem?_cons_succ, List.length_cons, List.length_nil, List.append_nil, List.cons_append, List.nil_append, Option.some.injEq, W.int.injEq, W.str.injEq, W.bl.injEq, W.tup.injEq, W.lst.injEq, W.ref.injEq, List.cons.injEq, Option.map_some, exists_and_left, exists_and_right, exists_eq_left, exists_eq_left', exists_eq, exists_eq', exists_eq_right, exists_eq_right', and_true, true_and, and_assoc, reduceIte, reduceCtorEq, decide_true, decide_false, decide_eq_true_eq, decide_eq_false_iff_not, Bool.not_eq_true', Bool.not_eq_false', Bool.true_eq_false, Bool.false_eq_true, if_true, if_false, Bool.not_true, Bool.not_false, ite_true, ite_false, Int.cast_ofNat_Int, Int.reduceAdd, Int.reduceSub, Int.reduceEq, Int.reduceLT, Int.reduceLE, Int.natCast_add, Nat.reduceEqDiff, Nat.reduceAdd, Nat.add_zero, Nat.zero_add, Nat.succ_ne_zero, not_true_eq_false, not_false_eq_true, Option.getD_some, Option.getD_none, h4]
      refine ⟨by decide, by decide, szl (by omega), fin _ _ _ (by simp) (by simp; omega) (fun w hw => ?_) hs3 ((fr1.trans fr2).trans fr3)⟩
      rcases List.mem_append.mp hw with z | z
      · exact hP w z
      · rw [List.mem_singleton.mp z]
        exact ⟨.num r4, rfl, hr4, rfl, rfl⟩
    · have h : kd = false := by simpa using h
      subst h
      rw [if_neg Bool.false_ne_true]
      have hl : (e.plain.map fun f : Nat => W.int f).length = e.plain.length := by simp
      simp only [dLc, wipeW, dX, dXs, dXo, dXi, dSc, d2, d1, dN, dVar, dC, dTup, dLst, dTru, dB, dChain, dIte, dNotV, dNotT, dJoinV, dJoinT, dNil, dCons, dCall, dBM, dIsi, dIsi2, dAttr, dMeth, dNew, dDget, dDin, dDnew, dKidx, dKin, dKget, dDisp, dFrz, dSlice, dNoPart, dPart, dAsg, dExpr, dRet, dIf, dFld, dSet, dDput, dNever, dFor, dNext, binP, cmpP, iSeqD, iRg1, iRg2, iZip, iEnumD, Tg.asg, setAll, List.set, List.map_cons, List.map_nil, subW, modW, fdivW, powW, ltW, leW, gtW, geW, newL, finD, frzO, tupW, listW, oneW, twoW, BI.w, ints_eq, add_int, add_str, add_tup, add_lst, mul_int, mul_lst, idx_tup, idx_lst, idx_scr, idx_str, len_tup, len_lst, len_scr, len_str, sl_tup, sl_lst, neg_int, str_int, str_str, int_int, int_bl, is_non, is_int, is_str, is_tup, is_lst, is_bl, is_bb, eq_int, eq_str, eq_bl, ne_int, ne_str, ne_bl, eq_nilL, ty_non, ty_bl, ty_int, ty_str, ty_tup, ty_lst, ty_scr, ty_dk, Ty.sub, tr_bl, tr_non, tr_int, tr_str, sv_lst, sv_tup, sv_scr, lv_lst, at0, at1, at2, cut1, len0, ss_nil, for_nil, for_cons, pairs_cons, pairs_nil, pairs_nil', walk_lst, walk_scr, walk_tup, walk_str, walk_ref, List.getElem?_cons_zero, List.getElem?_cons_succ, List.length_cons, List.length_nil, List.append_nil, List.cons_append, List.nil_append, Option.some.injEq, W.int.injEq, W.str.injEq, W.bl.injEq, W.tup.injEq, W.lst.injEq, W.ref.injEq, List.cons.injEq, Option.map_some, exists_and_left, exists_and_right, exists_eq_left, exists_eq_left', exists_eq, exists_eq', exists_eq_right, exists_eq_right', and_true, true_and, and_assoc, reduceIte, reduceCtorEq, decide_true, decide_false, decide_eq_true_eq, decide_eq_false_iff_not, Bool.not_eq_true', Bool.not_eq_false', Bool.true_eq_false, Bool.false_eq_true, if_true, if_false, Bool.not_true, Bool.not_false, ite_true, ite_false, Int.cast_ofNat_Int, Int.reduceAdd, Int.reduceSub, Int.reduceEq, Int.reduceLT, Int.reduceLE, Int.natCast_add, Nat.reduceEqDiff, Nat.reduceAdd, Nat.add_zero, Nat.zero_add, Nat.succ_ne_zero, not_true_eq_false, not_false_eq_true, Option.getD_some, Option.getD_none, dl_plain, hl]
      refine ⟨by decide, by decide, by decide, lc_rng0 (LfIn e.kinds.length) (fun _ => trivial) hs (fun x hx M1 K hs1 fr1 hK => ?_) fun ys M2 hl2 hy hs2 fr => ?_⟩
      · simp only [dX, dXs, dXo, dXi, dSc, d2, d1, dN, dVar, dC, dTup, dLst, dTru, dB, dChain, dIte, dNotV, dNotT, dJoinV, dJoinT, dNil, dCons, dCall, dBM, dIsi, dIsi2, dAttr, dMeth, dNew, dDget, dDin, dDnew, dKidx, dKin, dKget, dDisp, dFrz, dSlice, dNoPart, dPart, dAsg, dExpr, dRet, dIf, dFld, dSet, dDput, dNever, dFor, dNext, binP, cmpP, iSeqD, iRg1, iRg2, iZip, iEnumD, Tg.asg, setAll, List.set, List.map_cons, List.map_nil, subW, modW, fdivW, powW, ltW, leW, gtW, geW, newL, finD, frzO, tupW, listW, oneW, twoW, BI.w, ints_eq, add_int, add_str, add_tup, add_lst, mul_int, mul_lst, idx_tup, idx_lst, idx_scr, idx_str, len_tup, len_lst, len_scr, len_str, sl_tup, sl_lst, neg_int, str_int, str_str, int_int, int_bl, is_non, is_int, is_str, is_tup, is_lst, is_bl, is_bb, eq_int, eq_str, eq_bl, ne_int, ne_str, ne_bl, eq_nilL, ty_non, ty_bl, ty_int, ty_str, ty_tup, ty_lst, ty_scr, ty_dk, Ty.sub, tr_bl, tr_non, tr_int, tr_str, sv_lst, sv_tup, sv_scr, lv_lst, at0, at1, at2, cut1, len0, ss_nil, for_nil, for_cons, pairs_cons, pairs_nil, pairs_nil', walk_lst, walk_scr, walk_tup, walk_str, walk_ref, List.getElem?_cons_zero, List.getElem?_cons_succ, List.length_cons, List.length_nil, List.append_nil, List.cons_append, List.nil_append, Option.some.injEq, W.int.injEq, W.str.injEq, W.bl.injEq, W.tup.injEq, W.lst.injEq, W.ref.injEq, List.cons.injEq, Option.map_some, exists_and_left, exists_and_right, exists_eq_left, exists_eq_left', exists_eq, exists_eq', exists_eq_right, exists_eq_right', and_true, true_and, and_assoc, reduceIte, reduceCtorEq, decide_true, decide_false, decide_eq_true_eq, decide_eq_false_iff_not, Bool.not_eq_true', Bool.not_eq_false', Bool.true_eq_false, Bool.false_eq_true, if_true, if_false, Bool.not_true, Bool.not_false, ite_true, ite_false, Int.cast_ofNat_Int, Int.reduceAdd, Int.reduceSub, Int.reduceEq, Int.reduceLT, Int.reduceLE, Int.natCast_add, Nat.reduceEqDiff, Nat.reduceAdd, Nat.add_zero, Nat.zero_add, Nat.succ_ne_zero, not_true_eq_false, not_false_eq_true, Option.getD_some, Option.getD_none, dl_plain, hl]
        refine use_next e.plain.length hs1 rfl (by have := ok.ne; omega) (by have := ok.p8; omega) fun r M2 hr hs2 fr2 => ?_
        have hr' : r < (e.plain.map fun f : Nat => W.int f).length := by rw [hl]; exact hr
        simp only [dX, dXs, dXo, dXi, dSc, d2, d1, dN, dVar, dC, dTup, dLst, dTru, dB, dChain, dIte, dNotV, dNotT, dJoinV, dJoinT, dNil, dCons, dCall, dBM, dIsi, dIsi2, dAttr, dMeth, dNew, dDget, dDin, dDnew, dKidx, dKin, dKget, dDisp, dFrz, dSlice, dNoPart, dPart, dAsg, dExpr, dRet, dIf, dFld, dSet, dDput, dNever, dFor, dNext, binP, cmpP, iSeqD, iRg1, iRg2, iZip, iEnumD, Tg.asg, setAll, List.set, List.map_cons, List.map_nil, subW, modW, fdivW, powW, ltW, leW, gtW, geW, newL, finD, frzO, tupW, listW, oneW, twoW, BI.w, ints_eq, add_int, add_str, add_tup, add_lst, mul_int, mul_lst, idx_tup, idx_lst, idx_scr, idx_str, len_tup, len_lst, len_scr, len_str, sl_tup, sl_lst, neg_int, str_int, str_str, int_int, int_bl, is_non, is_int, is_str, is_tup, is_lst, is_bl, is_bb, eq_int, eq_str, eq_bl, ne_int, ne_str, ne_bl, eq_nilL, ty_non, ty_bl, ty_int, ty_str, ty_tup, ty_lst, ty_scr, ty_dk, Ty.sub, tr_bl, tr_non, tr_int, tr_str, sv_lst, sv_tup, sv_scr, lv_lst, at0, at1, at2, cut1, len0, ss_nil, for_nil, for_cons, pairs_cons, pairs_nil, pairs_nil', walk_lst, walk_scr, walk_tup, walk_str, walk_ref, List.getElem?_cons_zero, List.getElem?_cons_succ, List.length_cons, List.length_nil, List.append_nil, List.cons_append, List.nil_append, Option.some.injEq, W.int.injEq, W.str.injEq, W.bl.injEq, W.tup.injEq, W.lst.injEq, W.ref.injEq, List.cons.injEq, Option.map_some, exists_and_left, exists_and_right, exists_eq_left, exists_eq_left', exists_eq, exists_eq', exists_eq_right, exists_eq_right', and_true, true_and, and_assoc, reduceIte, reduceCtorEq, decide_true, decide_false, decide_eq_true_eq, decide_eq_false_iff_not, Bool.not_eq_true', Bool.not_eq_false', Bool.true_eq_false, Bool.false_eq_true, if_true, if_false, Bool.not_true, Bool.not_false, ite_true, ite_false, Int.cast_ofNat_Int, Int.reduceAdd, Int.reduceSub, Int.reduceEq, Int.reduceLT, Int.reduceLE, Int.natCast_add, Nat.reduceEqDiff, Nat.reduceAdd, Nat.add_zero, Nat.zero_add, Nat.succ_ne_zero, not_true_eq_false, not_false_eq_true, Option.getD_some, Option.getD_none, pick hr', List.getElem_map]
        exact ⟨by decide, hK _ _ ⟨.way e.plain[r], rfl, ok.lt _ (List.getElem_mem hr), rfl, rfl⟩ hs2 fr2⟩
      · have l2 : ys.length = 2 := by rw [hl2]; decide
        simp only [dX, dXs, dXo, dXi, dSc, d2, d1, dN, dVar, dC, dTup, dLst, dTru, dB, dChain, dIte, dNotV, dNotT, dJoinV, dJoinT, dNil, dCons, dCall, dBM, dIsi, dIsi2, dAttr, dMeth, dNew, dDget, dDin, dDnew, dKidx, dKin, dKget, dDisp, dFrz, dSlice, dNoPart, dPart, dAsg, dExpr, dRet, dIf, dFld, dSet, dDput, dNever, dFor, dNext, binP, cmpP, iSeqD, iRg1, iRg2, iZip, iEnumD, Tg.asg, setAll, List.set, List.map_cons, List.map_nil, subW, modW, fdivW, powW, ltW, leW, gtW, geW, newL, finD, frzO, tupW, listW, oneW, twoW, BI.w, ints_eq, add_int, add_str, add_tup, add_lst, mul_int, mul_lst, idx_tup, idx_lst, idx_scr, idx_str, len_tup, len_lst, len_scr, len_str, sl_tup, sl_lst, neg_int, str_int, str_str, int_int, int_bl, is_non, is_int, is_str, is_tup, is_lst, is_bl, is_bb, eq_int, eq_str, eq_bl, ne_int, ne_str, ne_bl, eq_nilL, ty_non, ty_bl, ty_int, ty_str, ty_tup, ty_lst, ty_scr, ty_dk, Ty.sub, tr_bl, tr_non, tr_int, tr_str, sv_lst, sv_tup, sv_scr, lv_lst, at0, at1, at2, cut1, len0, ss_nil, for_nil, for_cons, pairs_cons, pairs_nil, pairs_nil', walk_lst, walk_scr, walk_tup, walk_str, walk_ref, List.getElem?_cons_zero, List.getElem?_cons_succ, List.length_cons, List.length_nil, List.append_nil, List.cons_append, List.nil_append, Option.some.injEq, W.int.injEq, W.str.injEq, W.bl.injEq, W.tup.injEq, W.lst.injEq, W.ref.injEq, List.cons.injEq, Option.map_some, exists_and_left, exists_and_right, exists_eq_left, exists_eq_left', exists_eq, exists_eq', exists_eq_right, exists_eq_right', and_true, true_and, and_assoc, reduceIte, reduceCtorEq, decide_true, decide_false, decide_eq_true_eq, decide_eq_false_iff_not, Bool.not_eq_true', Bool.not_eq_false', Bool.true_eq_false, Bool.false_eq_true, if_true, if_false, Bool.not_true, Bool.not_false, ite_true, ite_false, Int.cast_ofNat_Int, Int.reduceAdd, Int.reduceSub, Int.reduceEq, Int.reduceLT, Int.reduceLE, Int.natCast_add, Nat.reduceEqDiff, Nat.reduceAdd, Nat.add_zero, Nat.zero_add, Nat.succ_ne_zero, not_true_eq_false, not_false_eq_true, Option.getD_some, Option.getD_none]
        refine ⟨szl (by omega), fin _ _ _ (by simp; omega) (by simp; omega) (fun w hw => ?_) hs2 fr⟩
        rcases List.mem_append.mp hw with z | z
        · exact hP w z
        · exact hy w z
  have r3 : (List.replicate (Int.toNat 3) [W.tup [W.str (Str.ofString "argument")]]).flatten = [Bd.arg.enc, Bd.arg.enc, Bd.arg.enc] := rfl
  rw [r3]
  have la : LfIn e.kinds.length Bd.arg.enc := ⟨.arg, rfl, trivial, rfl, rfl⟩
  cases hb : (e.came == kd) with
  | true =>
    refine ⟨by decide, by decide, by decide, by decide, by decide, by decide, by decide, by decide, key _ (by decide) fun w hw => ?_⟩
    have : w = Bd.arg.enc := by simpa [List.replicate] using hw
    rw [this]; exact la
  | false =>
    refine ⟨by decide, by decide, by decide, by decide, by decide, by decide, by decide, by decide, key _ (by decide) fun w hw => ?_⟩
    have : False := by simpa [List.replicate] using hw
    exact this.elim
def sp_l_less : Nat → Wp := fun k ws M Q _ => ∃ (a s : Addr) (e : Ev) (d : Nat), ws = [.ref a, e.enc, .int d] ∧ Hs a s M ∧ e.Ok ∧ 3 * d + 3 ≤ k ∧ ∀ w M', BdIn e.kinds.length (d + 1) w → Hs a s M' → Fr a s M M' → Q w M'
def sp_l_call_v2 : Nat → Wp := fun k ws M Q _ => ∃ (a s : Addr) (e : Ev) (d : Nat), ws = [.ref a, e.enc, .int ((d : Int) + 1)] ∧ Hs a s M ∧ e.Ok ∧ 3 * d + 4 ≤ k ∧ ∀ w M', BdIn e.kinds.length (d + 2) w → Hs a s M' → Fr a s M M' → Q w M'
def sp_l_body_v1 : Nat → Wp := fun k ws M Q _ => ∃ (a s : Addr) (e : Ev) (kd : Bool) (d : Nat), ws = [.ref a, e.enc, kW kd, .int d] ∧ Hs a s M ∧ e.Ok ∧ 3 * d + 2 ≤ k ∧ ∀ w M', BdIn e.kinds.length (d + 1) w → Hs a s M' → Fr a s M M' → Q w M'
theorem use_less {k : Nat} {a s : Addr} {e : Ev} {d : Nat} {M : Mh} {Q : QW} {Ex : QX} (hs : Hs a s M) (ok : e.Ok) (hk : 3 * d + 3 ≤ k) (q : ∀ w M', BdIn e.kinds.length (d + 1) w → Hs a s M' → Fr a s M M' → Q w M') : sp_l_less k [.ref a, e.enc, .int d] M Q Ex := ⟨a, s, e, d, rfl, hs, ok, hk, q⟩
theorem use_call {k : Nat} {a s : Addr} {e : Ev} {d : Nat} {M : Mh} {Q : QW} {Ex : QX} (hs : Hs a s M) (ok : e.Ok) (hk : 3 * d + 4 ≤ k) (q : ∀ w M', BdIn e.kinds.length (d + 2) w → Hs a s M' → Fr a s M M' → Q w M') : sp_l_call_v2 k [.ref a, e.enc, .int ((d : Int) + 1)] M Q Ex := ⟨a, s, e, d, rfl, hs, ok, hk, q⟩
theorem use_body {k : Nat} {a s : Addr} {e : Ev} (kd : Bool) {kw : W} {d : Nat} {M : Mh} {Q : QW} {Ex : QX} (hw : kw = kW kd) (hs : Hs a s M) (ok : e.Ok) (hk : 3 * d + 2 ≤ k) (q : ∀ w M', BdIn e.kinds.length (d + 1) w → Hs a s M' → Fr a s M M' → Q w M') : sp_l_body_v1 k [.ref a, e.enc, kw, .int d] M Q Ex :=
  ⟨a, s, e, kd, d, by rw [hw], hs, ok, hk, q⟩
theorem use_leaf {k : Nat} {a s : Addr} {e : Ev} (kd : Bool) {kw : W} {M : Mh} {Q : QW} {Ex : QX} (hw : kw = kW kd) (hs : Hs a s M) (ok : e.Ok) (hk : 1 ≤ k) (q : ∀ w M', LfIn e.kinds.length w → Hs a s M' → Fr a s M M' → Q w M') : sp_l_leaf_v1 k [.ref a, e.enc, kw] M Q Ex :=
  ⟨a, s, e, kd, by rw [hw], hs, ok, hk, q⟩
theorem keep_l_less {Γ : Gam} {k : Nat} (f_l_body_v1 : Γ.fn 50 = dn sp_l_body_v1 k) (f_l_next : Γ.fn 45 = dn sp_l_next k) : KeepC Γ n_l_less 3 c_l_less (sp_l_less k) := by
  rintro ws M Q Ex ⟨a, s, e, d, rfl, hs, ok, hk, q⟩
  refine ⟨rfl, ?_⟩
  show dSs Γ _ _ [some (.ref a), some e.enc, some (.int d)] M
  cases k with
  | zero => omega
  | succ k =>
  simp only [st_l_less_2, st_l_less_1, st_l_less, dX, dXs, dXo, dXi, dSc, d2, d1, dN, dVar, dC, dTup, dLst, dTru, dB, dChain, dIte, dNotV, dNotT, dJoinV, dJoinT, dNil, dCons, dCall, dBM, dIsi, dIsi2, dAttr, dMeth, dNew, dDget, dDin, dDnew, dKidx, dKin, dKget, dDisp, dFrz, dSlice, dNoPart, dPart, dAsg, dExpr, dRet, dIf, dFld, dSet, dDput, dNever, dFor, dNext, binP, cmpP, iSeqD, iRg1, iRg2, iZip, iEnumD, Tg.asg, setAll, List.set, List.map_cons, List.map_nil, subW, modW, fdivW, powW, ltW, leW, gtW, geW, newL, finD, frzO, tupW, listW, oneW, twoW, BI.w, ints_eq, add_int, add_str, add_tup, add_lst, mul_int, mul_lst, idx_tup, idx_lst, idx_scr, idx_str, len_tup, len_lst, len_scr, len_str, sl_tup, sl_lst, neg_int, str_int, str_str, int_int, int_bl, is_non, is_int, is_str, is_tup, is_lst, is_bl, is_bb, eq_int, eq_str, eq_bl, ne_int, ne_str, ne_bl, eq_nilL, ty_non, ty_bl, ty_int, ty_str, ty_tup, ty_lst, ty_scr, ty_dk, Ty.sub, tr_bl, tr_non, tr_int, tr_str, sv_lst, sv_tup, sv_scr, lv_lst, at0, at1, at2, cut1, len0, ss_nil, for_nil, for_cons, pairs_cons, pairs_nil, pairs_nil', walk_lst, walk_scr, walk_tup, walk_str, walk_ref, List.getElem?_cons_zero, List.getElem?_cons_succ, List.length_cons, List.length_nil, List.append_nil, List.cons_append, List.nil_append, Option.some.injEq, W.int.injEq, W.str.injEq, W.bl.injEq, W.tup.injEq, W.lst.injEq, W.ref.injEq, List.cons.injEq, Option.map_some, exists_and_left, exists_and_right, exists_eq_left, exists_eq_left', exists_eq, exists_eq', exists_eq_right, exists_eq_right', and_true, true_and, and_assoc, reduceIte, reduceCtorEq, decide_true, decide_false, decide_eq_true_eq, decide_eq_false_iff_not, Bool.not_eq_true', Bool.not_eq_false', Bool.true_eq_false, Bool.false_eq_true, if_true, if_false, Bool.not_true, Bool.not_false, ite_true, ite_false, Int.cast_ofNat_Int, Int.reduceAdd, Int.reduceSub, Int.reduceEq, Int.reduceLT, Int.reduceLE, Int.natCast_add, Nat.reduceEqDiff, Nat.reduceAdd, Nat.add_zero, Nat.zero_add, Nat.succ_ne_zero, not_true_eq_false, not_false_eq_true, Option.getD_some, Option.getD_none, dl_came, kW_number, f_l_body_v1, f_l_next, dn]
  have other : ∀ M', Hs a s M' → Fr a s M M' → sp_l_body_v1 k [W.ref a, e.enc, W.str (Str.ofString "number"), W.int d] M' Q Ex := fun M' hs' fr => use_body (Ex := Ex) true rfl hs' ok (by omega) fun w M2 hw hs2 fr2 => q w M2 hw hs2 (fr.trans fr2)
  by_cases h : e.came = true
  · rw [if_pos h]
    refine use_next 4 hs rfl (by decide) (by decide) fun r M1 hr hs1 fr1 => ?_
    simp only [dX, dXs, dXo, dXi, dSc, d2, d1, dN, dVar, dC, dTup, dLst, dTru, dB, dChain, dIte, dNotV, dNotT, dJoinV, dJoinT, dNil, dCons, dCall, dBM, dIsi, dIsi2, dAttr, dMeth, dNew, dDget, dDin, dDnew, dKidx, dKin, dKget, dDisp, dFrz, dSlice, dNoPart, dPart, dAsg, dExpr, dRet, dIf, dFld, dSet, dDput, dNever, dFor, dNext, binP, cmpP, iSeqD, iRg1, iRg2, iZip, iEnumD, Tg.asg, setAll, List.set, List.map_cons, List.map_nil, subW, modW, fdivW, powW, ltW, leW, gtW, geW, newL, finD, frzO, tupW, listW, oneW, twoW, BI.w, ints_eq, add_int, add_str, add_tup, add_lst, mul_int, mul_lst, idx_tup, idx_lst, idx_scr, idx_str, len_tup, len_lst, len_scr, len_str, sl_tup, sl_lst, neg_int, str_int, str_str, int_int, int_bl, is_non, is_int, is_str, is_tup, is_lst, is_bl, is_bb, eq_int, eq_str, eq_bl, ne_int, ne_str, ne_bl, eq_nilL, ty_non, ty_bl, ty_int, ty_str, ty_tup, ty_lst, ty_scr, ty_dk, Ty.sub, tr_bl, tr_non, tr_int, tr_str, sv_lst, sv_tup, sv_scr, lv_lst, at0, at1, at2, cut1, len0, ss_nil, for_nil, for_cons, pairs_cons, pairs_nil, pairs_nil', walk_lst, walk_scr, walk_tup, walk_str, walk_ref, List.getElem?_cons_zero, List.getElem?_cons_succ, List.length_cons, List.length_nil, List.append_nil, List.cons_append, List.nil_append, Option.some.injEq, W.int.injEq, W.str.injEq, W.bl.injEq, W.tup.injEq, W.lst.injEq, W.ref.injEq, List.cons.injEq, Option.map_some, exists_and_left, exists_and_right, exists_eq_left, exists_eq_left', exists_eq, exists_eq', exists_eq_right, exists_eq_right', and_true, true_and, and_assoc, reduceIte, reduceCtorEq, decide_true, decide_false, decide_eq_true_eq, decide_eq_false_iff_not, Bool.not_eq_true', Bool.not_eq_false', Bool.true_eq_false, Bool.false_eq_true, if_true, if_false, Bool.not_true, Bool.not_false, ite_true, ite_false, Int.cast_ofNat_Int, Int.reduceAdd, Int.reduceSub, Int.reduceEq, Int.reduceLT, Int.reduceLE, Int.natCast_add, Nat.reduceEqDiff, Nat.reduceAdd, Nat.add_zero, Nat.zero_add, Nat.succ_ne_zero, not_true_eq_false, not_false_eq_true, Option.getD_some, Option.getD_none]
    by_cases h0 : (0 : Int) < (r : Int)
    · simp only [h0, if_true]
      refine ⟨by decide, by decide, by decide, q _ _ ⟨.less .arg (.num 1), rfl, ⟨trivial, by show 1 ≤ 99; decide⟩, by show 1 ≤ _; omega⟩ hs1 fr1⟩
    · simp only [h0, if_false]
      exact other M1 hs1 fr1
  · rw [if_neg h, if_neg h]
    exact other M hs .refl
theorem kd_pick {kinds : List Bool} {r : Nat} (h : r < kinds.length) : atI (kinds.map kW) (r : Int) = some (kW kinds[r]) := by
  rw [pick (by simpa using h), List.getElem_map]
theorem two_pick {r : Nat} (h : r < 2) : ∃ b, atI [W.str (Str.ofString "number"), W.str (Str.ofString "way")] (r : Int) = some (kW b) := by
  cases r with
  | zero => exact ⟨true, rfl⟩
  | succ r => cases r with
    | zero => exact ⟨false, rfl⟩
    | succ r => omega
theorem keep_l_call_v2 {Γ : Gam} {k : Nat} (f_l_next : Γ.fn 45 = dn sp_l_next k) (f_l_less : Γ.fn 49 = dn sp_l_less k) (f_l_body_v1 : Γ.fn 50 = dn sp_l_body_v1 k) : KeepC Γ n_l_call_v2 3 c_l_call_v2 (sp_l_call_v2 k) := by
  rintro ws M Q Ex ⟨a, s, e, d, rfl, hs, ok, hk, q⟩
  refine ⟨rfl, ?_⟩
  show dSs Γ _ _ [some (.ref a), some e.enc, some (.int ((d : Int) + 1)), none, none, none] M
  cases k with
  | zero => omega
  | succ k =>
  simp only [st_l_call_v2, dX, dXs, dXo, dXi, dSc, d2, d1, dN, dVar, dC, dTup, dLst, dTru, dB, dChain, dIte, dNotV, dNotT, dJoinV, dJoinT, dNil, dCons, dCall, dBM, dIsi, dIsi2, dAttr, dMeth, dNew, dDget, dDin, dDnew, dKidx, dKin, dKget, dDisp, dFrz, dSlice, dNoPart, dPart, dAsg, dExpr, dRet, dIf, dFld, dSet, dDput, dNever, dFor, dNext, binP, cmpP, iSeqD, iRg1, iRg2, iZip, iEnumD, Tg.asg, setAll, List.set, List.map_cons, List.map_nil, subW, modW, fdivW, powW, ltW, leW, gtW, geW, newL, finD, frzO, tupW, listW, oneW, twoW, BI.w, ints_eq, add_int, add_str, add_tup, add_lst, mul_int, mul_lst, idx_tup, idx_lst, idx_scr, idx_str, len_tup, len_lst, len_scr, len_str, sl_tup, sl_lst, neg_int, str_int, str_str, int_int, int_bl, is_non, is_int, is_str, is_tup, is_lst, is_bl, is_bb, eq_int, eq_str, eq_bl, ne_int, ne_str, ne_bl, eq_nilL, ty_non, ty_bl, ty_int, ty_str, ty_tup, ty_lst, ty_scr, ty_dk, Ty.sub, tr_bl, tr_non, tr_int, tr_str, sv_lst, sv_tup, sv_scr, lv_lst, at0, at1, at2, cut1, len0, ss_nil, for_nil, for_cons, pairs_cons, pairs_nil, pairs_nil', walk_lst, walk_scr, walk_tup, walk_str, walk_ref, List.getElem?_cons_zero, List.getElem?_cons_succ, List.length_cons, List.length_nil, List.append_nil, List.cons_append, List.nil_append, Option.some.injEq, W.int.injEq, W.str.injEq, W.bl.injEq, W.tup.injEq, W.lst.injEq, W.ref.injEq, List.cons.injEq, Option.map_some, exists_and_left, exists_and_right, exists_eq_left, exists_eq_left', exists_eq, exists_eq', exists_eq_right, exists_eq_right', and_true, true_and, and_assoc, reduceIte, reduceCtorEq, decide_true, decide_false, decide_eq_true_eq, decide_eq_false_iff_not, Bool.not_eq_true', Bool.not_eq_false', Bool.true_eq_false, Bool.false_eq_true, if_true, if_false, Bool.not_true, Bool.not_false, ite_true, ite_false, Int.cast_ofNat_Int, Int.reduceAdd, Int.reduceSub, Int.reduceEq, Int.reduceLT, Int.reduceLE, Int.natCast_add, Nat.reduceEqDiff, Nat.reduceAdd, Nat.add_zero, Nat.zero_add, Nat.succ_ne_zero, not_true_eq_false, not_false_eq_true, Option.getD_some, Option.getD_none, f_l_next, f_l_less, f_l_body_v1, dn]
  refine use_next 3 hs rfl (by decide) (by decide) fun r M1 hr hs1 fr1 => ?_
  have l1 := ok.l1
  have l8 := ok.l8
  simp only [eq_int, dX, dXs, dXo, dXi, dSc, d2, d1, dN, dVar, dC, dTup, dLst, dTru, dB, dChain, dIte, dNotV, dNotT, dJoinV, dJoinT, dNil, dCons, dCall, dBM, dIsi, dIsi2, dAttr, dMeth, dNew, dDget, dDin, dDnew, dKidx, dKin, dKget, dDisp, dFrz, dSlice, dNoPart, dPart, dAsg, dExpr, dRet, dIf, dFld, dSet, dDput, dNever, dFor, dNext, binP, cmpP, iSeqD, iRg1, iRg2, iZip, iEnumD, Tg.asg, setAll, List.set, List.map_cons, List.map_nil, subW, modW, fdivW, powW, ltW, leW, gtW, geW, newL, finD, frzO, tupW, listW, oneW, twoW, BI.w, ints_eq, add_int, add_str, add_tup, add_lst, mul_int, mul_lst, idx_tup, idx_lst, idx_scr, idx_str, len_tup, len_lst, len_scr, len_str, sl_tup, sl_lst, neg_int, str_int, str_str, int_int, int_bl, is_non, is_int, is_str, is_tup, is_lst, is_bl, is_bb, eq_int, eq_str, eq_bl, ne_int, ne_str, ne_bl, eq_nilL, ty_non, ty_bl, ty_int, ty_str, ty_tup, ty_lst, ty_scr, ty_dk, Ty.sub, tr_bl, tr_non, tr_int, tr_str, sv_lst, sv_tup, sv_scr, lv_lst, at0, at1, at2, cut1, len0, ss_nil, for_nil, for_cons, pairs_cons, pairs_nil, pairs_nil', walk_lst, walk_scr, walk_tup, walk_str, walk_ref, List.getElem?_cons_zero, List.getElem?_cons_succ, List.length_cons, List.length_nil, List.append_nil, List.cons_append, List.nil_append, Option.some.injEq, W.int.injEq, W.str.injEq, W.bl.injEq, W.tup.injEq, W.lst.injEq, W.ref.injEq, List.cons.injEq, Option.map_some, exists_and_left, exists_and_right, exists_eq_left, exists_eq_left', exists_eq, exists_eq', exists_eq_right, exists_eq_right', and_true, true_and, and_assoc, reduceIte, reduceCtorEq, decide_true, decide_false, decide_eq_true_eq, decide_eq_false_iff_not, Bool.not_eq_true', Bool.not_eq_false', Bool.true_eq_false, Bool.false_eq_true, if_true, if_false, Bool.not_true, Bool.not_false, ite_true, ite_false, Int.cast_ofNat_Int, Int.reduceAdd, Int.reduceSub, Int.reduceEq, Int.reduceLT, Int.reduceLE, Int.natCast_add, Nat.reduceEqDiff, Nat.reduceAdd, Nat.add_zero, Nat.zero_add, Nat.succ_ne_zero, not_true_eq_false, not_false_eq_true, Option.getD_some, Option.getD_none]
  by_cases h0 : (r : Int) = 0
  · simp only [h0, if_true, st_l_call_v2_6, dX, dXs, dXo, dXi, dSc, d2, d1, dN, dVar, dC, dTup, dLst, dTru, dB, dChain, dIte, dNotV, dNotT, dJoinV, dJoinT, dNil, dCons, dCall, dBM, dIsi, dIsi2, dAttr, dMeth, dNew, dDget, dDin, dDnew, dKidx, dKin, dKget, dDisp, dFrz, dSlice, dNoPart, dPart, dAsg, dExpr, dRet, dIf, dFld, dSet, dDput, dNever, dFor, dNext, binP, cmpP, iSeqD, iRg1, iRg2, iZip, iEnumD, Tg.asg, setAll, List.set, List.map_cons, List.map_nil, subW, modW, fdivW, powW, ltW, leW, gtW, geW, newL, finD, frzO, tupW, listW, oneW, twoW, BI.w, ints_eq, add_int, add_str, add_tup, add_lst, mul_int, mul_lst, idx_tup, idx_lst, idx_scr, idx_str, len_tup, len_lst, len_scr, len_str, sl_tup, sl_lst, neg_int, str_int, str_str, int_int, int_bl, is_non, is_int, is_str, is_tup, is_lst, is_bl, is_bb, eq_int, eq_str, eq_bl, ne_int, ne_str, ne_bl, eq_nilL, ty_non, ty_bl, ty_int, ty_str, ty_tup, ty_lst, ty_scr, ty_dk, Ty.sub, tr_bl, tr_non, tr_int, tr_str, sv_lst, sv_tup, sv_scr, lv_lst, at0, at1, at2, cut1, len0, ss_nil, for_nil, for_cons, pairs_cons, pairs_nil, pairs_nil', walk_lst, walk_scr, walk_tup, walk_str, walk_ref, List.getElem?_cons_zero, List.getElem?_cons_succ, List.length_cons, List.length_nil, List.append_nil, List.cons_append, List.nil_append, Option.some.injEq, W.int.injEq, W.str.injEq, W.bl.injEq, W.tup.injEq, W.lst.injEq, W.ref.injEq, List.cons.injEq, Option.map_some, exists_and_left, exists_and_right, exists_eq_left, exists_eq_left', exists_eq, exists_eq', exists_eq_right, exists_eq_right', and_true, true_and, and_assoc, reduceIte, reduceCtorEq, decide_true, decide_false, decide_eq_true_eq, decide_eq_false_iff_not, Bool.not_eq_true', Bool.not_eq_false', Bool.true_eq_false, Bool.false_eq_true, if_true, if_false, Bool.not_true, Bool.not_false, ite_true, ite_false, Int.cast_ofNat_Int, Int.reduceAdd, Int.reduceSub, Int.reduceEq, Int.reduceLT, Int.reduceLE, Int.natCast_add, Nat.reduceEqDiff, Nat.reduceAdd, Nat.add_zero, Nat.zero_add, Nat.succ_ne_zero, not_true_eq_false, not_false_eq_true, Option.getD_some, Option.getD_none, f_l_next, f_l_less, f_l_body_v1, dn, Int.add_sub_cancel]
    refine use_body (Ex := Ex) false rfl hs1 ok (by omega) fun w1 M2 hw1 hs2 fr2 => ?_
    refine use_less (Ex := Ex) hs2 ok (by omega) fun w2 M3 hw2 hs3 fr3 => ?_
    obtain ⟨b1, rfl, o1, g1⟩ := hw1
    obtain ⟨b2, rfl, o2, g2⟩ := hw2
    exact ⟨by decide, q _ _ ⟨.thr b1 b2, rfl, ⟨o1, o2⟩, by simp only [Bd.ht]; omega⟩ hs3 ((fr1.trans fr2).trans fr3)⟩
  · simp only [h0, if_false, st_l_call_v2_1, dX, dXs, dXo, dXi, dSc, d2, d1, dN, dVar, dC, dTup, dLst, dTru, dB, dChain, dIte, dNotV, dNotT, dJoinV, dJoinT, dNil, dCons, dCall, dBM, dIsi, dIsi2, dAttr, dMeth, dNew, dDget, dDin, dDnew, dKidx, dKin, dKget, dDisp, dFrz, dSlice, dNoPart, dPart, dAsg, dExpr, dRet, dIf, dFld, dSet, dDput, dNever, dFor, dNext, binP, cmpP, iSeqD, iRg1, iRg2, iZip, iEnumD, Tg.asg, setAll, List.set, List.map_cons, List.map_nil, subW, modW, fdivW, powW, ltW, leW, gtW, geW, newL, finD, frzO, tupW, listW, oneW, twoW, BI.w, ints_eq, add_int, add_str, add_tup, add_lst, mul_int, mul_lst, idx_tup, idx_lst, idx_scr, idx_str, len_tup, len_lst, len_scr, len_str, sl_tup, sl_lst, neg_int, str_int, str_str, int_int, int_bl, is_non, is_int, is_str, is_tup, is_lst, is_bl, is_bb, eq_int, eq_str, eq_bl, ne_int, ne_str, ne_bl, eq_nilL, ty_non, ty_bl, ty_int, ty_str, ty_tup, ty_lst, ty_scr, ty_dk, Ty.sub, tr_bl, tr_non, tr_int, tr_str, sv_lst, sv_tup, sv_scr, lv_lst, at0, at1, at2, cut1, len0, ss_nil, for_nil, for_cons, pairs_cons, pairs_nil, pairs_nil', walk_lst, walk_scr, walk_tup, walk_str, walk_ref, List.getElem?_cons_zero, List.getElem?_cons_succ, List.length_cons, List.length_nil, List.append_nil, List.cons_append, List.nil_append, Option.some.injEq, W.int.injEq, W.str.injEq, W.bl.injEq, W.tup.injEq, W.lst.injEq, W.ref.injEq, List.cons.injEq, Option.map_some, exists_and_left, exists_and_right, exists_eq_left, exists_eq_left', exists_eq, exists_eq', exists_eq_right, exists_eq_right', and_true, true_and, and_assoc, reduceIte, reduceCtorEq, decide_true, decide_false, decide_eq_true_eq, decide_eq_false_iff_not, Bool.not_eq_true', Bool.not_eq_false', Bool.true_eq_false, Bool.false_eq_true, if_true, if_false, Bool.not_true, Bool.not_false, ite_true, ite_false, Int.cast_ofNat_Int, Int.reduceAdd, Int.reduceSub, Int.reduceEq, Int.reduceLT, Int.reduceLE, Int.natCast_add, Nat.reduceEqDiff, Nat.reduceAdd, Nat.add_zero, Nat.zero_add, Nat.succ_ne_zero, not_true_eq_false, not_false_eq_true, Option.getD_some, Option.getD_none, f_l_next, f_l_less, f_l_body_v1, dn, dl_kinds, List.length_map]
    refine use_next e.kinds.length hs1 rfl (by omega) (by omega) fun f M2 hf hs2 fr2 => ?_
    simp only [st_l_call_v2_2, st_l_call_v2_3, dX, dXs, dXo, dXi, dSc, d2, d1, dN, dVar, dC, dTup, dLst, dTru, dB, dChain, dIte, dNotV, dNotT, dJoinV, dJoinT, dNil, dCons, dCall, dBM, dIsi, dIsi2, dAttr, dMeth, dNew, dDget, dDin, dDnew, dKidx, dKin, dKget, dDisp, dFrz, dSlice, dNoPart, dPart, dAsg, dExpr, dRet, dIf, dFld, dSet, dDput, dNever, dFor, dNext, binP, cmpP, iSeqD, iRg1, iRg2, iZip, iEnumD, Tg.asg, setAll, List.set, List.map_cons, List.map_nil, subW, modW, fdivW, powW, ltW, leW, gtW, geW, newL, finD, frzO, tupW, listW, oneW, twoW, BI.w, ints_eq, add_int, add_str, add_tup, add_lst, mul_int, mul_lst, idx_tup, idx_lst, idx_scr, idx_str, len_tup, len_lst, len_scr, len_str, sl_tup, sl_lst, neg_int, str_int, str_str, int_int, int_bl, is_non, is_int, is_str, is_tup, is_lst, is_bl, is_bb, eq_int, eq_str, eq_bl, ne_int, ne_str, ne_bl, eq_nilL, ty_non, ty_bl, ty_int, ty_str, ty_tup, ty_lst, ty_scr, ty_dk, Ty.sub, tr_bl, tr_non, tr_int, tr_str, sv_lst, sv_tup, sv_scr, lv_lst, at0, at1, at2, cut1, len0, ss_nil, for_nil, for_cons, pairs_cons, pairs_nil, pairs_nil', walk_lst, walk_scr, walk_tup, walk_str, walk_ref, List.getElem?_cons_zero, List.getElem?_cons_succ, List.length_cons, List.length_nil, List.append_nil, List.cons_append, List.nil_append, Option.some.injEq, W.int.injEq, W.str.injEq, W.bl.injEq, W.tup.injEq, W.lst.injEq, W.ref.injEq, List.cons.injEq, Option.map_some, exists_and_left, exists_and_right, exists_eq_left, exists_eq_left', exists_eq, exists_eq', exists_eq_right, exists_eq_right', and_true, true_and, and_assoc, reduceIte, reduceCtorEq, decide_true, decide_false, decide_eq_true_eq, decide_eq_false_iff_not, Bool.not_eq_true', Bool.not_eq_false', Bool.true_eq_false, Bool.false_eq_true, if_true, if_false, Bool.not_true, Bool.not_false, ite_true, ite_false, Int.cast_ofNat_Int, Int.reduceAdd, Int.reduceSub, Int.reduceEq, Int.reduceLT, Int.reduceLE, Int.natCast_add, Nat.reduceEqDiff, Nat.reduceAdd, Nat.add_zero, Nat.zero_add, Nat.succ_ne_zero, not_true_eq_false, not_false_eq_true, Option.getD_some, Option.getD_none, f_l_next, f_l_less, f_l_body_v1, dn, dl_kinds, kd_pick hf]
    refine use_next 12 hs2 rfl (by decide) (by decide) fun r3 M3 hr3 hs3 fr3 => ?_
    have tail : ∀ (kd : Bool) M', Hs a s M' → Fr a s M M' → dSs Γ c_l_call_v2_4 { nx := fun x M' => Q W.non M', rt := Q, ex := Ex } [some (.ref a), some e.enc, some (.int ((d : Int) + 1)), some (.int f), some (kW kd), none] M' := by
      intro kd M' hs' fr'
      simp only [st_l_call_v2_4, st_l_call_v2_5, dX, dXs, dXo, dXi, dSc, d2, d1, dN, dVar, dC, dTup, dLst, dTru, dB, dChain, dIte, dNotV, dNotT, dJoinV, dJoinT, dNil, dCons, dCall, dBM, dIsi, dIsi2, dAttr, dMeth, dNew, dDget, dDin, dDnew, dKidx, dKin, dKget, dDisp, dFrz, dSlice, dNoPart, dPart, dAsg, dExpr, dRet, dIf, dFld, dSet, dDput, dNever, dFor, dNext, binP, cmpP, iSeqD, iRg1, iRg2, iZip, iEnumD, Tg.asg, setAll, List.set, List.map_cons, List.map_nil, subW, modW, fdivW, powW, ltW, leW, gtW, geW, newL, finD, frzO, tupW, listW, oneW, twoW, BI.w, ints_eq, add_int, add_str, add_tup, add_lst, mul_int, mul_lst, idx_tup, idx_lst, idx_scr, idx_str, len_tup, len_lst, len_scr, len_str, sl_tup, sl_lst, neg_int, str_int, str_str, int_int, int_bl, is_non, is_int, is_str, is_tup, is_lst, is_bl, is_bb, eq_int, eq_str, eq_bl, ne_int, ne_str, ne_bl, eq_nilL, ty_non, ty_bl, ty_int, ty_str, ty_tup, ty_lst, ty_scr, ty_dk, Ty.sub, tr_bl, tr_non, tr_int, tr_str, sv_lst, sv_tup, sv_scr, lv_lst, at0, at1, at2, cut1, len0, ss_nil, for_nil, for_cons, pairs_cons, pairs_nil, pairs_nil', walk_lst, walk_scr, walk_tup, walk_str, walk_ref, List.getElem?_cons_zero, List.getElem?_cons_succ, List.length_cons, List.length_nil, List.append_nil, List.cons_append, List.nil_append, Option.some.injEq, W.int.injEq, W.str.injEq, W.bl.injEq, W.tup.injEq, W.lst.injEq, W.ref.injEq, List.cons.injEq, Option.map_some, exists_and_left, exists_and_right, exists_eq_left, exists_eq_left', exists_eq, exists_eq', exists_eq_right, exists_eq_right', and_true, true_and, and_assoc, reduceIte, reduceCtorEq, decide_true, decide_false, decide_eq_true_eq, decide_eq_false_iff_not, Bool.not_eq_true', Bool.not_eq_false', Bool.true_eq_false, Bool.false_eq_true, if_true, if_false, Bool.not_true, Bool.not_false, ite_true, ite_false, Int.cast_ofNat_Int, Int.reduceAdd, Int.reduceSub, Int.reduceEq, Int.reduceLT, Int.reduceLE, Int.natCast_add, Nat.reduceEqDiff, Nat.reduceAdd, Nat.add_zero, Nat.zero_add, Nat.succ_ne_zero, not_true_eq_false, not_false_eq_true, Option.getD_some, Option.getD_none, kW_number, f_l_next, f_l_less, f_l_body_v1, dn, Int.add_sub_cancel]
      by_cases hk : kd = true
      · rw [if_pos hk]
        refine use_less (Ex := Ex) hs' ok (by omega) fun w M4 hw hs4 fr4 => ?_
        obtain ⟨b, rfl, o1, g1⟩ := hw
        exact ⟨by decide, q _ _ ⟨.call f b, rfl, ⟨hf, o1⟩, by simp only [Bd.ht]; omega⟩ hs4 (fr'.trans fr4)⟩
      · rw [if_neg hk]
        refine use_body (Ex := Ex) false rfl hs' ok (by omega) fun w M4 hw hs4 fr4 => ?_
        obtain ⟨b, rfl, o1, g1⟩ := hw
        exact ⟨by decide, q _ _ ⟨.call f b, rfl, ⟨hf, o1⟩, by simp only [Bd.ht]; omega⟩ hs4 (fr'.trans fr4)⟩
    simp only [eq_int, dX, dXs, dXo, dXi, dSc, d2, d1, dN, dVar, dC, dTup, dLst, dTru, dB, dChain, dIte, dNotV, dNotT, dJoinV, dJoinT, dNil, dCons, dCall, dBM, dIsi, dIsi2, dAttr, dMeth, dNew, dDget, dDin, dDnew, dKidx, dKin, dKget, dDisp, dFrz, dSlice, dNoPart, dPart, dAsg, dExpr, dRet, dIf, dFld, dSet, dDput, dNever, dFor, dNext, binP, cmpP, iSeqD, iRg1, iRg2, iZip, iEnumD, Tg.asg, setAll, List.set, List.map_cons, List.map_nil, subW, modW, fdivW, powW, ltW, leW, gtW, geW, newL, finD, frzO, tupW, listW, oneW, twoW, BI.w, ints_eq, add_int, add_str, add_tup, add_lst, mul_int, mul_lst, idx_tup, idx_lst, idx_scr, idx_str, len_tup, len_lst, len_scr, len_str, sl_tup, sl_lst, neg_int, str_int, str_str, int_int, int_bl, is_non, is_int, is_str, is_tup, is_lst, is_bl, is_bb, eq_int, eq_str, eq_bl, ne_int, ne_str, ne_bl, eq_nilL, ty_non, ty_bl, ty_int, ty_str, ty_tup, ty_lst, ty_scr, ty_dk, Ty.sub, tr_bl, tr_non, tr_int, tr_str, sv_lst, sv_tup, sv_scr, lv_lst, at0, at1, at2, cut1, len0, ss_nil, for_nil, for_cons, pairs_cons, pairs_nil, pairs_nil', walk_lst, walk_scr, walk_tup, walk_str, walk_ref, List.getElem?_cons_zero, List.getElem?_cons_succ, List.length_cons, List.length_nil, List.append_nil, List.cons_append, List.nil_append, Option.some.injEq, W.int.injEq, W.str.injEq, W.bl.injEq, W.tup.injEq, W.lst.injEq, W.ref.injEq, List.cons.injEq, Option.map_some, exists_and_left, exists_and_right, exists_eq_left, exists_eq_left', exists_eq, exists_eq', exists_eq_right, exists_eq_right', and_true, true_and, and_assoc, reduceIte, reduceCtorEq, decide_true, decide_false, decide_eq_true_eq, decide_eq_false_iff_not, Bool.not_eq_true', Bool.not_eq_false', Bool.true_eq_false, Bool.false_eq_true, if_true, if_false, Bool.not_true, Bool.not_false, ite_true, ite_false, Int.cast_ofNat_Int, Int.reduceAdd, Int.reduceSub, Int.reduceEq, Int.reduceLT, Int.reduceLE, Int.natCast_add, Nat.reduceEqDiff, Nat.reduceAdd, Nat.add_zero, Nat.zero_add, Nat.succ_ne_zero, not_true_eq_false, not_false_eq_true, Option.getD_some, Option.getD_none]
    by_cases h3 : (r3 : Int) = 0
    · simp only [h3, if_true, st_l_call_v2_7, dX, dXs, dXo, dXi, dSc, d2, d1, dN, dVar, dC, dTup, dLst, dTru, dB, dChain, dIte, dNotV, dNotT, dJoinV, dJoinT, dNil, dCons, dCall, dBM, dIsi, dIsi2, dAttr, dMeth, dNew, dDget, dDin, dDnew, dKidx, dKin, dKget, dDisp, dFrz, dSlice, dNoPart, dPart, dAsg, dExpr, dRet, dIf, dFld, dSet, dDput, dNever, dFor, dNext, binP, cmpP, iSeqD, iRg1, iRg2, iZip, iEnumD, Tg.asg, setAll, List.set, List.map_cons, List.map_nil, subW, modW, fdivW, powW, ltW, leW, gtW, geW, newL, finD, frzO, tupW, listW, oneW, twoW, BI.w, ints_eq, add_int, add_str, add_tup, add_lst, mul_int, mul_lst, idx_tup, idx_lst, idx_scr, idx_str, len_tup, len_lst, len_scr, len_str, sl_tup, sl_lst, neg_int, str_int, str_str, int_int, int_bl, is_non, is_int, is_str, is_tup, is_lst, is_bl, is_bb, eq_int, eq_str, eq_bl, ne_int, ne_str, ne_bl, eq_nilL, ty_non, ty_bl, ty_int, ty_str, ty_tup, ty_lst, ty_scr, ty_dk, Ty.sub, tr_bl, tr_non, tr_int, tr_str, sv_lst, sv_tup, sv_scr, lv_lst, at0, at1, at2, cut1, len0, ss_nil, for_nil, for_cons, pairs_cons, pairs_nil, pairs_nil', walk_lst, walk_scr, walk_tup, walk_str, walk_ref, List.getElem?_cons_zero, List.getElem?_cons_succ, List.length_cons, List.length_nil, List.append_nil, List.cons_append, List.nil_append, Option.some.injEq, W.int.injEq, W.str.injEq, W.bl.injEq, W.tup.injEq, W.lst.injEq, W.ref.injEq, List.cons.injEq, Option.map_some, exists_and_left, exists_and_right, exists_eq_left, exists_eq_left', exists_eq, exists_eq', exists_eq_right, exists_eq_right', and_true, true_and, and_assoc, reduceIte, reduceCtorEq, decide_true, decide_false, decide_eq_true_eq, decide_eq_false_iff_not, Bool.not_eq_true', Bool.not_eq_false', Bool.true_eq_false, Bool.false_eq_true, if_true, if_false, Bool.not_true, Bool.not_false, ite_true, ite_false, Int.cast_ofNat_Int, Int.reduceAdd, Int.reduceSub, Int.reduceEq, Int.reduceLT, Int.reduceLE, Int.natCast_add, Nat.reduceEqDiff, Nat.reduceAdd, Nat.add_zero, Nat.zero_add, Nat.succ_ne_zero, not_true_eq_false, not_false_eq_true, Option.getD_some, Option.getD_none, f_l_next, f_l_less, f_l_body_v1, dn]
      refine ⟨by decide, use_next 2 hs3 rfl (by decide) (by decide) fun r4 M4 hr4 hs4 fr4 => ?_⟩
      obtain ⟨b, hb⟩ := two_pick hr4
      simp only [dX, dXs, dXo, dXi, dSc, d2, d1, dN, dVar, dC, dTup, dLst, dTru, dB, dChain, dIte, dNotV, dNotT, dJoinV, dJoinT, dNil, dCons, dCall, dBM, dIsi, dIsi2, dAttr, dMeth, dNew, dDget, dDin, dDnew, dKidx, dKin, dKget, dDisp, dFrz, dSlice, dNoPart, dPart, dAsg, dExpr, dRet, dIf, dFld, dSet, dDput, dNever, dFor, dNext, binP, cmpP, iSeqD, iRg1, iRg2, iZip, iEnumD, Tg.asg, setAll, List.set, List.map_cons, List.map_nil, subW, modW, fdivW, powW, ltW, leW, gtW, geW, newL, finD, frzO, tupW, listW, oneW, twoW, BI.w, ints_eq, add_int, add_str, add_tup, add_lst, mul_int, mul_lst, idx_tup, idx_lst, idx_scr, idx_str, len_tup, len_lst, len_scr, len_str, sl_tup, sl_lst, neg_int, str_int, str_str, int_int, int_bl, is_non, is_int, is_str, is_tup, is_lst, is_bl, is_bb, eq_int, eq_str, eq_bl, ne_int, ne_str, ne_bl, eq_nilL, ty_non, ty_bl, ty_int, ty_str, ty_tup, ty_lst, ty_scr, ty_dk, Ty.sub, tr_bl, tr_non, tr_int, tr_str, sv_lst, sv_tup, sv_scr, lv_lst, at0, at1, at2, cut1, len0, ss_nil, for_nil, for_cons, pairs_cons, pairs_nil, pairs_nil', walk_lst, walk_scr, walk_tup, walk_str, walk_ref, List.getElem?_cons_zero, List.getElem?_cons_succ, List.length_cons, List.length_nil, List.append_nil, List.cons_append, List.nil_append, Option.some.injEq, W.int.injEq, W.str.injEq, W.bl.injEq, W.tup.injEq, W.lst.injEq, W.ref.injEq, List.cons.injEq, Option.map_some, exists_and_left, exists_and_right, exists_eq_left, exists_eq_left', exists_eq, exists_eq', exists_eq_right, exists_eq_right', and_true, true_and, and_assoc, reduceIte, reduceCtorEq, decide_true, decide_false, decide_eq_true_eq, decide_eq_false_iff_not, Bool.not_eq_true', Bool.not_eq_false', Bool.true_eq_false, Bool.false_eq_true, if_true, if_false, Bool.not_true, Bool.not_false, ite_true, ite_false, Int.cast_ofNat_Int, Int.reduceAdd, Int.reduceSub, Int.reduceEq, Int.reduceLT, Int.reduceLE, Int.natCast_add, Nat.reduceEqDiff, Nat.reduceAdd, Nat.add_zero, Nat.zero_add, Nat.succ_ne_zero, not_true_eq_false, not_false_eq_true, Option.getD_some, Option.getD_none, hb]
      exact tail b _ hs4 (((fr1.trans fr2).trans fr3).trans fr4)
    · simp only [h3, if_false]
      exact tail _ _ hs3 ((fr1.trans fr2).trans fr3)
def wordW (r : Nat) : Str := if r = 0 then "plus" else if r = 1 then "less" else "times"
theorem three_pick {r : Nat} (h : r < 3) : atI [W.str (Str.ofString "plus"), W.str (Str.ofString "less"), W.str (Str.ofString "times")] (r : Int) = some (.str (wordW r)) := by
  cases r with
  | zero => rfl
  | succ r => cases r with
    | zero => rfl
    | succ r => cases r with
      | zero => rfl
      | succ r => omega
theorem two_bd {m h r : Nat} {a b : Bd} (oa : a.ok m) (ob : b.ok m) (ha : a.ht ≤ h) (hb : b.ht ≤ h) : BdIn m (h + 1) (.tup [.str (wordW r), a.enc, b.enc]) := by
  unfold wordW
  by_cases h0 : r = 0
  · rw [if_pos h0]
    exact ⟨.plus a b, rfl, ⟨oa, ob⟩, by simp only [Bd.ht]; omega⟩
  · rw [if_neg h0]
    by_cases h1 : r = 1
    · rw [if_pos h1]
      exact ⟨.less a b, rfl, ⟨oa, ob⟩, by simp only [Bd.ht]; omega⟩
    · rw [if_neg h1]
      exact ⟨.times a b, rfl, ⟨oa, ob⟩, by simp only [Bd.ht]; omega⟩
theorem keep_l_body_v1 {Γ : Gam} {k : Nat} (f_l_next : Γ.fn 45 = dn sp_l_next k) (f_l_leaf_v1 : Γ.fn 47 = dn sp_l_leaf_v1 k) (f_l_body_v1 : Γ.fn 50 = dn sp_l_body_v1 k) (f_l_call_v2 : Γ.fn 48 = dn sp_l_call_v2 k) : KeepC Γ n_l_body_v1 4 c_l_body_v1 (sp_l_body_v1 k) := by
  rintro ws M Q Ex ⟨a, s, e, kd, d, rfl, hs, ok, hk, q⟩
  refine ⟨rfl, ?_⟩
  show dSs Γ _ _ [some (.ref a), some e.enc, some (kW kd), some (.int d), none, none, none, none] M
  cases k with
  | zero => omega
  | succ k =>
  simp only [st_l_body_v1, dX, dXs, dXo, dXi, dSc, d2, d1, dN, dVar, dC, dTup, dLst, dTru, dB, dChain, dIte, dNotV, dNotT, dJoinV, dJoinT, dNil, dCons, dCall, dBM, dIsi, dIsi2, dAttr, dMeth, dNew, dDget, dDin, dDnew, dKidx, dKin, dKget, dDisp, dFrz, dSlice, dNoPart, dPart, dAsg, dExpr, dRet, dIf, dFld, dSet, dDput, dNever, dFor, dNext, binP, cmpP, iSeqD, iRg1, iRg2, iZip, iEnumD, Tg.asg, setAll, List.set, List.map_cons, List.map_nil, subW, modW, fdivW, powW, ltW, leW, gtW, geW, newL, finD, frzO, tupW, listW, oneW, twoW, BI.w, ints_eq, add_int, add_str, add_tup, add_lst, mul_int, mul_lst, idx_tup, idx_lst, idx_scr, idx_str, len_tup, len_lst, len_scr, len_str, sl_tup, sl_lst, neg_int, str_int, str_str, int_int, int_bl, is_non, is_int, is_str, is_tup, is_lst, is_bl, is_bb, eq_int, eq_str, eq_bl, ne_int, ne_str, ne_bl, eq_nilL, ty_non, ty_bl, ty_int, ty_str, ty_tup, ty_lst, ty_scr, ty_dk, Ty.sub, tr_bl, tr_non, tr_int, tr_str, sv_lst, sv_tup, sv_scr, lv_lst, at0, at1, at2, cut1, len0, ss_nil, for_nil, for_cons, pairs_cons, pairs_nil, pairs_nil', walk_lst, walk_scr, walk_tup, walk_str, walk_ref, List.getElem?_cons_zero, List.getElem?_cons_succ, List.length_cons, List.length_nil, List.append_nil, List.cons_append, List.nil_append, Option.some.injEq, W.int.injEq, W.str.injEq, W.bl.injEq, W.tup.injEq, W.lst.injEq, W.ref.injEq, List.cons.injEq, Option.map_some, exists_and_left, exists_and_right, exists_eq_left, exists_eq_left', exists_eq, exists_eq', exists_eq_right, exists_eq_right', and_true, true_and, and_assoc, reduceIte, reduceCtorEq, decide_true, decide_false, decide_eq_true_eq, decide_eq_false_iff_not, Bool.not_eq_true', Bool.not_eq_false', Bool.true_eq_false, Bool.false_eq_true, if_true, if_false, Bool.not_true, Bool.not_false, ite_true, ite_false, Int.cast_ofNat_Int, Int.reduceAdd, Int.reduceSub, Int.reduceEq, Int.reduceLT, Int.reduceLE, Int.natCast_add, Nat.reduceEqDiff, Nat.reduceAdd, Nat.add_zero, Nat.zero_add, Nat.succ_ne_zero, not_true_eq_false, not_false_eq_true, Option.getD_some, Option.getD_none, f_l_next, f_l_leaf_v1, f_l_body_v1, f_l_call_v2, dn]
  refine use_next 10 hs rfl (by decide) (by decide) fun r M1 hr hs1 fr1 => ?_
  simp only [st_l_body_v1_1, dX, dXs, dXo, dXi, dSc, d2, d1, dN, dVar, dC, dTup, dLst, dTru, dB, dChain, dIte, dNotV, dNotT, dJoinV, dJoinT, dNil, dCons, dCall, dBM, dIsi, dIsi2, dAttr, dMeth, dNew, dDget, dDin, dDnew, dKidx, dKin, dKget, dDisp, dFrz, dSlice, dNoPart, dPart, dAsg, dExpr, dRet, dIf, dFld, dSet, dDput, dNever, dFor, dNext, binP, cmpP, iSeqD, iRg1, iRg2, iZip, iEnumD, Tg.asg, setAll, List.set, List.map_cons, List.map_nil, subW, modW, fdivW, powW, ltW, leW, gtW, geW, newL, finD, frzO, tupW, listW, oneW, twoW, BI.w, ints_eq, add_int, add_str, add_tup, add_lst, mul_int, mul_lst, idx_tup, idx_lst, idx_scr, idx_str, len_tup, len_lst, len_scr, len_str, sl_tup, sl_lst, neg_int, str_int, str_str, int_int, int_bl, is_non, is_int, is_str, is_tup, is_lst, is_bl, is_bb, eq_int, eq_str, eq_bl, ne_int, ne_str, ne_bl, eq_nilL, ty_non, ty_bl, ty_int, ty_str, ty_tup, ty_lst, ty_scr, ty_dk, Ty.sub, tr_bl, tr_non, tr_int, tr_str, sv_lst, sv_tup, sv_scr, lv_lst, at0, at1, at2, cut1, len0, ss_nil, for_nil, for_cons, pairs_cons, pairs_nil, pairs_nil', walk_lst, walk_scr, walk_tup, walk_str, walk_ref, List.getElem?_cons_zero, List.getElem?_cons_succ, List.length_cons, List.length_nil, List.append_nil, List.cons_append, List.nil_append, Option.some.injEq, W.int.injEq, W.str.injEq, W.bl.injEq, W.tup.injEq, W.lst.injEq, W.ref.injEq, List.cons.injEq, Option.map_some, exists_and_left, exists_and_right, exists_eq_left, exists_eq_left', exists_eq, exists_eq', exists_eq_right, exists_eq_right', and_true, true_and, and_assoc, reduceIte, reduceCtorEq, decide_true, decide_false, decide_eq_true_eq, decide_eq_false_iff_not, Bool.not_eq_true', Bool.not_eq_false', Bool.true_eq_false, Bool.false_eq_true, if_true, if_false, Bool.not_true, Bool.not_false, ite_true, ite_false, Int.cast_ofNat_Int, Int.reduceAdd, Int.reduceSub, Int.reduceEq, Int.reduceLT, Int.reduceLE, Int.natCast_add, Nat.reduceEqDiff, Nat.reduceAdd, Nat.add_zero, Nat.zero_add, Nat.succ_ne_zero, not_true_eq_false, not_false_eq_true, Option.getD_some, Option.getD_none]
  by_cases hd : (d : Int) < 1
  · simp only [hd, if_true, decide_true, st_l_body_v1_9, dX, dXs, dXo, dXi, dSc, d2, d1, dN, dVar, dC, dTup, dLst, dTru, dB, dChain, dIte, dNotV, dNotT, dJoinV, dJoinT, dNil, dCons, dCall, dBM, dIsi, dIsi2, dAttr, dMeth, dNew, dDget, dDin, dDnew, dKidx, dKin, dKget, dDisp, dFrz, dSlice, dNoPart, dPart, dAsg, dExpr, dRet, dIf, dFld, dSet, dDput, dNever, dFor, dNext, binP, cmpP, iSeqD, iRg1, iRg2, iZip, iEnumD, Tg.asg, setAll, List.set, List.map_cons, List.map_nil, subW, modW, fdivW, powW, ltW, leW, gtW, geW, newL, finD, frzO, tupW, listW, oneW, twoW, BI.w, ints_eq, add_int, add_str, add_tup, add_lst, mul_int, mul_lst, idx_tup, idx_lst, idx_scr, idx_str, len_tup, len_lst, len_scr, len_str, sl_tup, sl_lst, neg_int, str_int, str_str, int_int, int_bl, is_non, is_int, is_str, is_tup, is_lst, is_bl, is_bb, eq_int, eq_str, eq_bl, ne_int, ne_str, ne_bl, eq_nilL, ty_non, ty_bl, ty_int, ty_str, ty_tup, ty_lst, ty_scr, ty_dk, Ty.sub, tr_bl, tr_non, tr_int, tr_str, sv_lst, sv_tup, sv_scr, lv_lst, at0, at1, at2, cut1, len0, ss_nil, for_nil, for_cons, pairs_cons, pairs_nil, pairs_nil', walk_lst, walk_scr, walk_tup, walk_str, walk_ref, List.getElem?_cons_zero, List.getElem?_cons_succ, List.length_cons, List.length_nil, List.append_nil, List.cons_append, List.nil_append, Option.some.injEq, W.int.injEq, W.str.injEq, W.bl.injEq, W.tup.injEq, W.lst.injEq, W.ref.injEq, List.cons.injEq, Option.map_some, exists_and_left, exists_and_right, exists_eq_left, exists_eq_left', exists_eq, exists_eq', exists_eq_right, exists_eq_right', and_true, true_and, and_assoc, reduceIte, reduceCtorEq, decide_true, decide_false, decide_eq_true_eq, decide_eq_false_iff_not, Bool.not_eq_true', Bool.not_eq_false', Bool.true_eq_false, Bool.false_eq_true, if_true, if_false, Bool.not_true, Bool.not_false, ite_true, ite_false, Int.cast_ofNat_Int, Int.reduceAdd, Int.reduceSub, Int.reduceEq, Int.reduceLT, Int.reduceLE, Int.natCast_add, Nat.reduceEqDiff, Nat.reduceAdd, Nat.add_zero, Nat.zero_add, Nat.succ_ne_zero, not_true_eq_false, not_false_eq_true, Option.getD_some, Option.getD_none, f_l_next, f_l_leaf_v1, f_l_body_v1, f_l_call_v2, dn]
    exact use_leaf (Ex := Ex) kd rfl hs1 ok (by omega) fun w M2 hw hs2 fr2 => q w M2 hw.bd hs2 (fr1.trans fr2)
  obtain ⟨d', rfl⟩ : ∃ d', d = d' + 1 := ⟨d - 1, by omega⟩
  simp only [hd, if_false, decide_false, dX, dXs, dXo, dXi, dSc, d2, d1, dN, dVar, dC, dTup, dLst, dTru, dB, dChain, dIte, dNotV, dNotT, dJoinV, dJoinT, dNil, dCons, dCall, dBM, dIsi, dIsi2, dAttr, dMeth, dNew, dDget, dDin, dDnew, dKidx, dKin, dKget, dDisp, dFrz, dSlice, dNoPart, dPart, dAsg, dExpr, dRet, dIf, dFld, dSet, dDput, dNever, dFor, dNext, binP, cmpP, iSeqD, iRg1, iRg2, iZip, iEnumD, Tg.asg, setAll, List.set, List.map_cons, List.map_nil, subW, modW, fdivW, powW, ltW, leW, gtW, geW, newL, finD, frzO, tupW, listW, oneW, twoW, BI.w, ints_eq, add_int, add_str, add_tup, add_lst, mul_int, mul_lst, idx_tup, idx_lst, idx_scr, idx_str, len_tup, len_lst, len_scr, len_str, sl_tup, sl_lst, neg_int, str_int, str_str, int_int, int_bl, is_non, is_int, is_str, is_tup, is_lst, is_bl, is_bb, eq_int, eq_str, eq_bl, ne_int, ne_str, ne_bl, eq_nilL, ty_non, ty_bl, ty_int, ty_str, ty_tup, ty_lst, ty_scr, ty_dk, Ty.sub, tr_bl, tr_non, tr_int, tr_str, sv_lst, sv_tup, sv_scr, lv_lst, at0, at1, at2, cut1, len0, ss_nil, for_nil, for_cons, pairs_cons, pairs_nil, pairs_nil', walk_lst, walk_scr, walk_tup, walk_str, walk_ref, List.getElem?_cons_zero, List.getElem?_cons_succ, List.length_cons, List.length_nil, List.append_nil, List.cons_append, List.nil_append, Option.some.injEq, W.int.injEq, W.str.injEq, W.bl.injEq, W.tup.injEq, W.lst.injEq, W.ref.injEq, List.cons.injEq, Option.map_some, exists_and_left, exists_and_right, exists_eq_left, exists_eq_left', exists_eq, exists_eq', exists_eq_right, exists_eq_right', and_true, true_and, and_assoc, reduceIte, reduceCtorEq, decide_true, decide_false, decide_eq_true_eq, decide_eq_false_iff_not, Bool.not_eq_true', Bool.not_eq_false', Bool.true_eq_false, Bool.false_eq_true, if_true, if_false, Bool.not_true, Bool.not_false, ite_true, ite_false, Int.cast_ofNat_Int, Int.reduceAdd, Int.reduceSub, Int.reduceEq, Int.reduceLT, Int.reduceLE, Int.natCast_add, Nat.reduceEqDiff, Nat.reduceAdd, Nat.add_zero, Nat.zero_add, Nat.succ_ne_zero, not_true_eq_false, not_false_eq_true, Option.getD_some, Option.getD_none]
  by_cases h2 : (r : Int) < 2
  · simp only [h2, if_true, decide_true, st_l_body_v1_9, dX, dXs, dXo, dXi, dSc, d2, d1, dN, dVar, dC, dTup, dLst, dTru, dB, dChain, dIte, dNotV, dNotT, dJoinV, dJoinT, dNil, dCons, dCall, dBM, dIsi, dIsi2, dAttr, dMeth, dNew, dDget, dDin, dDnew, dKidx, dKin, dKget, dDisp, dFrz, dSlice, dNoPart, dPart, dAsg, dExpr, dRet, dIf, dFld, dSet, dDput, dNever, dFor, dNext, binP, cmpP, iSeqD, iRg1, iRg2, iZip, iEnumD, Tg.asg, setAll, List.set, List.map_cons, List.map_nil, subW, modW, fdivW, powW, ltW, leW, gtW, geW, newL, finD, frzO, tupW, listW, oneW, twoW, BI.w, ints_eq, add_int, add_str, add_tup, add_lst, mul_int, mul_lst, idx_tup, idx_lst, idx_scr, idx_str, len_tup, len_lst, len_scr, len_str, sl_tup, sl_lst, neg_int, str_int, str_str, int_int, int_bl, is_non, is_int, is_str, is_tup, is_lst, is_bl, is_bb, eq_int, eq_str, eq_bl, ne_int, ne_str, ne_bl, eq_nilL, ty_non, ty_bl, ty_int, ty_str, ty_tup, ty_lst, ty_scr, ty_dk, Ty.sub, tr_bl, tr_non, tr_int, tr_str, sv_lst, sv_tup, sv_scr, lv_lst, at0, at1, at2, cut1, len0, ss_nil, for_nil, for_cons, pairs_cons, pairs_nil, pairs_nil', walk_lst, walk_scr, walk_tup, walk_str, walk_ref, List.getElem?_cons_zero, List.getElem?_cons_succ, List.length_cons, List.length_nil, List.append_nil, List.cons_append, List.nil_append, Option.some.injEq, W.int.injEq, W.str.injEq, W.bl.injEq, W.tup.injEq, W.lst.injEq, W.ref.injEq, List.cons.injEq, Option.map_some, exists_and_left, exists_and_right, exists_eq_left, exists_eq_left', exists_eq, exists_eq', exists_eq_right, exists_eq_right', and_true, true_and, and_assoc, reduceIte, reduceCtorEq, decide_true, decide_false, decide_eq_true_eq, decide_eq_false_iff_not, Bool.not_eq_true', Bool.not_eq_false', Bool.true_eq_false, Bool.false_eq_true, if_true, if_false, Bool.not_true, Bool.not_false, ite_true, ite_false, Int.cast_ofNat_Int, Int.reduceAdd, Int.reduceSub, Int.reduceEq, Int.reduceLT, Int.reduceLE, Int.natCast_add, Nat.reduceEqDiff, Nat.reduceAdd, Nat.add_zero, Nat.zero_add, Nat.succ_ne_zero, not_true_eq_false, not_false_eq_true, Option.getD_some, Option.getD_none, f_l_next, f_l_leaf_v1, f_l_body_v1, f_l_call_v2, dn]
    exact use_leaf (Ex := Ex) kd rfl hs1 ok (by omega) fun w M2 hw hs2 fr2 => q w M2 hw.bd hs2 (fr1.trans fr2)
  simp only [h2, if_false, decide_false, st_l_body_v1_2, dX, dXs, dXo, dXi, dSc, d2, d1, dN, dVar, dC, dTup, dLst, dTru, dB, dChain, dIte, dNotV, dNotT, dJoinV, dJoinT, dNil, dCons, dCall, dBM, dIsi, dIsi2, dAttr, dMeth, dNew, dDget, dDin, dDnew, dKidx, dKin, dKget, dDisp, dFrz, dSlice, dNoPart, dPart, dAsg, dExpr, dRet, dIf, dFld, dSet, dDput, dNever, dFor, dNext, binP, cmpP, iSeqD, iRg1, iRg2, iZip, iEnumD, Tg.asg, setAll, List.set, List.map_cons, List.map_nil, subW, modW, fdivW, powW, ltW, leW, gtW, geW, newL, finD, frzO, tupW, listW, oneW, twoW, BI.w, ints_eq, add_int, add_str, add_tup, add_lst, mul_int, mul_lst, idx_tup, idx_lst, idx_scr, idx_str, len_tup, len_lst, len_scr, len_str, sl_tup, sl_lst, neg_int, str_int, str_str, int_int, int_bl, is_non, is_int, is_str, is_tup, is_lst, is_bl, is_bb, eq_int, eq_str, eq_bl, ne_int, ne_str, ne_bl, eq_nilL, ty_non, ty_bl, ty_int, ty_str, ty_tup, ty_lst, ty_scr, ty_dk, Ty.sub, tr_bl, tr_non, tr_int, tr_str, sv_lst, sv_tup, sv_scr, lv_lst, at0, at1, at2, cut1, len0, ss_nil, for_nil, for_cons, pairs_cons, pairs_nil, pairs_nil', walk_lst, walk_scr, walk_tup, walk_str, walk_ref, List.getElem?_cons_zero, List.getElem?_cons_succ, List.length_cons, List.length_nil, List.append_nil, List.cons_append, List.nil_append, Option.some.injEq, W.int.injEq, W.str.injEq, W.bl.injEq, W.tup.injEq, W.lst.injEq, W.ref.injEq, List.cons.injEq, Option.map_some, exists_and_left, exists_and_right, exists_eq_left, exists_eq_left', exists_eq, exists_eq', exists_eq_right, exists_eq_right', and_true, true_and, and_assoc, reduceIte, reduceCtorEq, decide_true, decide_false, decide_eq_true_eq, decide_eq_false_iff_not, Bool.not_eq_true', Bool.not_eq_false', Bool.true_eq_false, Bool.false_eq_true, if_true, if_false, Bool.not_true, Bool.not_false, ite_true, ite_false, Int.cast_ofNat_Int, Int.reduceAdd, Int.reduceSub, Int.reduceEq, Int.reduceLT, Int.reduceLE, Int.natCast_add, Nat.reduceEqDiff, Nat.reduceAdd, Nat.add_zero, Nat.zero_add, Nat.succ_ne_zero, not_true_eq_false, not_false_eq_true, Option.getD_some, Option.getD_none]
  by_cases h3 : (r : Int) < 3
  · simp only [h3, if_true, decide_true, st_l_body_v1_10, st_l_body_v1_11, dX, dXs, dXo, dXi, dSc, d2, d1, dN, dVar, dC, dTup, dLst, dTru, dB, dChain, dIte, dNotV, dNotT, dJoinV, dJoinT, dNil, dCons, dCall, dBM, dIsi, dIsi2, dAttr, dMeth, dNew, dDget, dDin, dDnew, dKidx, dKin, dKget, dDisp, dFrz, dSlice, dNoPart, dPart, dAsg, dExpr, dRet, dIf, dFld, dSet, dDput, dNever, dFor, dNext, binP, cmpP, iSeqD, iRg1, iRg2, iZip, iEnumD, Tg.asg, setAll, List.set, List.map_cons, List.map_nil, subW, modW, fdivW, powW, ltW, leW, gtW, geW, newL, finD, frzO, tupW, listW, oneW, twoW, BI.w, ints_eq, add_int, add_str, add_tup, add_lst, mul_int, mul_lst, idx_tup, idx_lst, idx_scr, idx_str, len_tup, len_lst, len_scr, len_str, sl_tup, sl_lst, neg_int, str_int, str_str, int_int, int_bl, is_non, is_int, is_str, is_tup, is_lst, is_bl, is_bb, eq_int, eq_str, eq_bl, ne_int, ne_str, ne_bl, eq_nilL, ty_non, ty_bl, ty_int, ty_str, ty_tup, ty_lst, ty_scr, ty_dk, Ty.sub, tr_bl, tr_non, tr_int, tr_str, sv_lst, sv_tup, sv_scr, lv_lst, at0, at1, at2, cut1, len0, ss_nil, for_nil, for_cons, pairs_cons, pairs_nil, pairs_nil', walk_lst, walk_scr, walk_tup, walk_str, walk_ref, List.getElem?_cons_zero, List.getElem?_cons_succ, List.length_cons, List.length_nil, List.append_nil, List.cons_append, List.nil_append, Option.some.injEq, W.int.injEq, W.str.injEq, W.bl.injEq, W.tup.injEq, W.lst.injEq, W.ref.injEq, List.cons.injEq, Option.map_some, exists_and_left, exists_and_right, exists_eq_left, exists_eq_left', exists_eq, exists_eq', exists_eq_right, exists_eq_right', and_true, true_and, and_assoc, reduceIte, reduceCtorEq, decide_true, decide_false, decide_eq_true_eq, decide_eq_false_iff_not, Bool.not_eq_true', Bool.not_eq_false', Bool.true_eq_false, Bool.false_eq_true, if_true, if_false, Bool.not_true, Bool.not_false, ite_true, ite_false, Int.cast_ofNat_Int, Int.reduceAdd, Int.reduceSub, Int.reduceEq, Int.reduceLT, Int.reduceLE, Int.natCast_add, Nat.reduceEqDiff, Nat.reduceAdd, Nat.add_zero, Nat.zero_add, Nat.succ_ne_zero, not_true_eq_false, not_false_eq_true, Option.getD_some, Option.getD_none, f_l_next, f_l_leaf_v1, f_l_body_v1, f_l_call_v2, dn, Int.add_sub_cancel]
    refine use_body (Ex := Ex) true rfl hs1 ok (by omega) fun w1 M2 hw1 hs2 fr2 => ?_
    refine use_body (Ex := Ex) kd rfl hs2 ok (by omega) fun w2 M3 hw2 hs3 fr3 => ?_
    refine use_body (Ex := Ex) kd rfl hs3 ok (by omega) fun w3 M4 hw3 hs4 fr4 => ?_
    obtain ⟨b1, rfl, o1, g1⟩ := hw1
    obtain ⟨b2, rfl, o2, g2⟩ := hw2
    obtain ⟨b3, rfl, o3, g3⟩ := hw3
    exact ⟨by decide, q _ _ ⟨.iff b1 b2 b3, rfl, ⟨o1, o2, o3⟩, by simp only [Bd.ht]; omega⟩ hs4 (((fr1.trans fr2).trans fr3).trans fr4)⟩
  simp only [h3, if_false, decide_false, st_l_body_v1_3, dX, dXs, dXo, dXi, dSc, d2, d1, dN, dVar, dC, dTup, dLst, dTru, dB, dChain, dIte, dNotV, dNotT, dJoinV, dJoinT, dNil, dCons, dCall, dBM, dIsi, dIsi2, dAttr, dMeth, dNew, dDget, dDin, dDnew, dKidx, dKin, dKget, dDisp, dFrz, dSlice, dNoPart, dPart, dAsg, dExpr, dRet, dIf, dFld, dSet, dDput, dNever, dFor, dNext, binP, cmpP, iSeqD, iRg1, iRg2, iZip, iEnumD, Tg.asg, setAll, List.set, List.map_cons, List.map_nil, subW, modW, fdivW, powW, ltW, leW, gtW, geW, newL, finD, frzO, tupW, listW, oneW, twoW, BI.w, ints_eq, add_int, add_str, add_tup, add_lst, mul_int, mul_lst, idx_tup, idx_lst, idx_scr, idx_str, len_tup, len_lst, len_scr, len_str, sl_tup, sl_lst, neg_int, str_int, str_str, int_int, int_bl, is_non, is_int, is_str, is_tup, is_lst, is_bl, is_bb, eq_int, eq_str, eq_bl, ne_int, ne_str, ne_bl, eq_nilL, ty_non, ty_bl, ty_int, ty_str, ty_tup, ty_lst, ty_scr, ty_dk, Ty.sub, tr_bl, tr_non, tr_int, tr_str, sv_lst, sv_tup, sv_scr, lv_lst, at0, at1, at2, cut1, len0, ss_nil, for_nil, for_cons, pairs_cons, pairs_nil, pairs_nil', walk_lst, walk_scr, walk_tup, walk_str, walk_ref, List.getElem?_cons_zero, List.getElem?_cons_succ, List.length_cons, List.length_nil, List.append_nil, List.cons_append, List.nil_append, Option.some.injEq, W.int.injEq, W.str.injEq, W.bl.injEq, W.tup.injEq, W.lst.injEq, W.ref.injEq, List.cons.injEq, Option.map_some, exists_and_left, exists_and_right, exists_eq_left, exists_eq_left', exists_eq, exists_eq', exists_eq_right, exists_eq_right', and_true, true_and, and_assoc, reduceIte, reduceCtorEq, decide_true, decide_false, decide_eq_true_eq, decide_eq_false_iff_not, Bool.not_eq_true', Bool.not_eq_false', Bool.true_eq_false, Bool.false_eq_true, if_true, if_false, Bool.not_true, Bool.not_false, ite_true, ite_false, Int.cast_ofNat_Int, Int.reduceAdd, Int.reduceSub, Int.reduceEq, Int.reduceLT, Int.reduceLE, Int.natCast_add, Nat.reduceEqDiff, Nat.reduceAdd, Nat.add_zero, Nat.zero_add, Nat.succ_ne_zero, not_true_eq_false, not_false_eq_true, Option.getD_some, Option.getD_none]
  by_cases h4 : (r : Int) = 3
  · simp only [h4, if_true, decide_true, st_l_body_v1_12, st_l_body_v1_13, dX, dXs, dXo, dXi, dSc, d2, d1, dN, dVar, dC, dTup, dLst, dTru, dB, dChain, dIte, dNotV, dNotT, dJoinV, dJoinT, dNil, dCons, dCall, dBM, dIsi, dIsi2, dAttr, dMeth, dNew, dDget, dDin, dDnew, dKidx, dKin, dKget, dDisp, dFrz, dSlice, dNoPart, dPart, dAsg, dExpr, dRet, dIf, dFld, dSet, dDput, dNever, dFor, dNext, binP, cmpP, iSeqD, iRg1, iRg2, iZip, iEnumD, Tg.asg, setAll, List.set, List.map_cons, List.map_nil, subW, modW, fdivW, powW, ltW, leW, gtW, geW, newL, finD, frzO, tupW, listW, oneW, twoW, BI.w, ints_eq, add_int, add_str, add_tup, add_lst, mul_int, mul_lst, idx_tup, idx_lst, idx_scr, idx_str, len_tup, len_lst, len_scr, len_str, sl_tup, sl_lst, neg_int, str_int, str_str, int_int, int_bl, is_non, is_int, is_str, is_tup, is_lst, is_bl, is_bb, eq_int, eq_str, eq_bl, ne_int, ne_str, ne_bl, eq_nilL, ty_non, ty_bl, ty_int, ty_str, ty_tup, ty_lst, ty_scr, ty_dk, Ty.sub, tr_bl, tr_non, tr_int, tr_str, sv_lst, sv_tup, sv_scr, lv_lst, at0, at1, at2, cut1, len0, ss_nil, for_nil, for_cons, pairs_cons, pairs_nil, pairs_nil', walk_lst, walk_scr, walk_tup, walk_str, walk_ref, List.getElem?_cons_zero, List.getElem?_cons_succ, List.length_cons, List.length_nil, List.append_nil, List.cons_append, List.nil_append, Option.some.injEq, W.int.injEq, W.str.injEq, W.bl.injEq, W.tup.injEq, W.lst.injEq, W.ref.injEq, List.cons.injEq, Option.map_some, exists_and_left, exists_and_right, exists_eq_left, exists_eq_left', exists_eq, exists_eq', exists_eq_right, exists_eq_right', and_true, true_and, and_assoc, reduceIte, reduceCtorEq, decide_true, decide_false, decide_eq_true_eq, decide_eq_false_iff_not, Bool.not_eq_true', Bool.not_eq_false', Bool.true_eq_false, Bool.false_eq_true, if_true, if_false, Bool.not_true, Bool.not_false, ite_true, ite_false, Int.cast_ofNat_Int, Int.reduceAdd, Int.reduceSub, Int.reduceEq, Int.reduceLT, Int.reduceLE, Int.natCast_add, Nat.reduceEqDiff, Nat.reduceAdd, Nat.add_zero, Nat.zero_add, Nat.succ_ne_zero, not_true_eq_false, not_false_eq_true, Option.getD_some, Option.getD_none, f_l_next, f_l_leaf_v1, f_l_body_v1, f_l_call_v2, dn, Int.add_sub_cancel]
    refine ⟨by decide, use_next 2 hs1 rfl (by decide) (by decide) fun r2 M2 hr2 hs2 fr2 => ?_⟩
    obtain ⟨b, hb⟩ := two_pick hr2
    simp only [dX, dXs, dXo, dXi, dSc, d2, d1, dN, dVar, dC, dTup, dLst, dTru, dB, dChain, dIte, dNotV, dNotT, dJoinV, dJoinT, dNil, dCons, dCall, dBM, dIsi, dIsi2, dAttr, dMeth, dNew, dDget, dDin, dDnew, dKidx, dKin, dKget, dDisp, dFrz, dSlice, dNoPart, dPart, dAsg, dExpr, dRet, dIf, dFld, dSet, dDput, dNever, dFor, dNext, binP, cmpP, iSeqD, iRg1, iRg2, iZip, iEnumD, Tg.asg, setAll, List.set, List.map_cons, List.map_nil, subW, modW, fdivW, powW, ltW, leW, gtW, geW, newL, finD, frzO, tupW, listW, oneW, twoW, BI.w, ints_eq, add_int, add_str, add_tup, add_lst, mul_int, mul_lst, idx_tup, idx_lst, idx_scr, idx_str, len_tup, len_lst, len_scr, len_str, sl_tup, sl_lst, neg_int, str_int, str_str, int_int, int_bl, is_non, is_int, is_str, is_tup, is_lst, is_bl, is_bb, eq_int, eq_str, eq_bl, ne_int, ne_str, ne_bl, eq_nilL, ty_non, ty_bl, ty_int, ty_str, ty_tup, ty_lst, ty_scr, ty_dk, Ty.sub, tr_bl, tr_non, tr_int, tr_str, sv_lst, sv_tup, sv_scr, lv_lst, at0, at1, at2, cut1, len0, ss_nil, for_nil, for_cons, pairs_cons, pairs_nil, pairs_nil', walk_lst, walk_scr, walk_tup, walk_str, walk_ref, List.getElem?_cons_zero, List.getElem?_cons_succ, List.length_cons, List.length_nil, List.append_nil, List.cons_append, List.nil_append, Option.some.injEq, W.int.injEq, W.str.injEq, W.bl.injEq, W.tup.injEq, W.lst.injEq, W.ref.injEq, List.cons.injEq, Option.map_some, exists_and_left, exists_and_right, exists_eq_left, exists_eq_left', exists_eq, exists_eq', exists_eq_right, exists_eq_right', and_true, true_and, and_assoc, reduceIte, reduceCtorEq, decide_true, decide_false, decide_eq_true_eq, decide_eq_false_iff_not, Bool.not_eq_true', Bool.not_eq_false', Bool.true_eq_false, Bool.false_eq_true, if_true, if_false, Bool.not_true, Bool.not_false, ite_true, ite_false, Int.cast_ofNat_Int, Int.reduceAdd, Int.reduceSub, Int.reduceEq, Int.reduceLT, Int.reduceLE, Int.natCast_add, Nat.reduceEqDiff, Nat.reduceAdd, Nat.add_zero, Nat.zero_add, Nat.succ_ne_zero, not_true_eq_false, not_false_eq_true, Option.getD_some, Option.getD_none, hb, f_l_next, f_l_leaf_v1, f_l_body_v1, f_l_call_v2, dn, Int.add_sub_cancel]
    refine use_body (Ex := Ex) b rfl hs2 ok (by omega) fun w1 M3 hw1 hs3 fr3 => ?_
    refine use_body (Ex := Ex) kd rfl hs3 ok (by omega) fun w2 M4 hw2 hs4 fr4 => ?_
    obtain ⟨b1, rfl, o1, g1⟩ := hw1
    obtain ⟨b2, rfl, o2, g2⟩ := hw2
    exact ⟨by decide, q _ _ ⟨.thn b1 b2, rfl, ⟨o1, o2⟩, by simp only [Bd.ht]; omega⟩ hs4 (((fr1.trans fr2).trans fr3).trans fr4)⟩
  simp only [h4, if_false, decide_false, st_l_body_v1_4, dX, dXs, dXo, dXi, dSc, d2, d1, dN, dVar, dC, dTup, dLst, dTru, dB, dChain, dIte, dNotV, dNotT, dJoinV, dJoinT, dNil, dCons, dCall, dBM, dIsi, dIsi2, dAttr, dMeth, dNew, dDget, dDin, dDnew, dKidx, dKin, dKget, dDisp, dFrz, dSlice, dNoPart, dPart, dAsg, dExpr, dRet, dIf, dFld, dSet, dDput, dNever, dFor, dNext, binP, cmpP, iSeqD, iRg1, iRg2, iZip, iEnumD, Tg.asg, setAll, List.set, List.map_cons, List.map_nil, subW, modW, fdivW, powW, ltW, leW, gtW, geW, newL, finD, frzO, tupW, listW, oneW, twoW, BI.w, ints_eq, add_int, add_str, add_tup, add_lst, mul_int, mul_lst, idx_tup, idx_lst, idx_scr, idx_str, len_tup, len_lst, len_scr, len_str, sl_tup, sl_lst, neg_int, str_int, str_str, int_int, int_bl, is_non, is_int, is_str, is_tup, is_lst, is_bl, is_bb, eq_int, eq_str, eq_bl, ne_int, ne_str, ne_bl, eq_nilL, ty_non, ty_bl, ty_int, ty_str, ty_tup, ty_lst, ty_scr, ty_dk, Ty.sub, tr_bl, tr_non, tr_int, tr_str, sv_lst, sv_tup, sv_scr, lv_lst, at0, at1, at2, cut1, len0, ss_nil, for_nil, for_cons, pairs_cons, pairs_nil, pairs_nil', walk_lst, walk_scr, walk_tup, walk_str, walk_ref, List.getElem?_cons_zero, List.getElem?_cons_succ, List.length_cons, List.length_nil, List.append_nil, List.cons_append, List.nil_append, Option.some.injEq, W.int.injEq, W.str.injEq, W.bl.injEq, W.tup.injEq, W.lst.injEq, W.ref.injEq, List.cons.injEq, Option.map_some, exists_and_left, exists_and_right, exists_eq_left, exists_eq_left', exists_eq, exists_eq', exists_eq_right, exists_eq_right', and_true, true_and, and_assoc, reduceIte, reduceCtorEq, decide_true, decide_false, decide_eq_true_eq, decide_eq_false_iff_not, Bool.not_eq_true', Bool.not_eq_false', Bool.true_eq_false, Bool.false_eq_true, if_true, if_false, Bool.not_true, Bool.not_false, ite_true, ite_false, Int.cast_ofNat_Int, Int.reduceAdd, Int.reduceSub, Int.reduceEq, Int.reduceLT, Int.reduceLE, Int.natCast_add, Nat.reduceEqDiff, Nat.reduceAdd, Nat.add_zero, Nat.zero_add, Nat.succ_ne_zero, not_true_eq_false, not_false_eq_true, Option.getD_some, Option.getD_none, kW_way]
  cases kd with
  | false =>
    simp only [st_l_body_v1_14, dX, dXs, dXo, dXi, dSc, d2, d1, dN, dVar, dC, dTup, dLst, dTru, dB, dChain, dIte, dNotV, dNotT, dJoinV, dJoinT, dNil, dCons, dCall, dBM, dIsi, dIsi2, dAttr, dMeth, dNew, dDget, dDin, dDnew, dKidx, dKin, dKget, dDisp, dFrz, dSlice, dNoPart, dPart, dAsg, dExpr, dRet, dIf, dFld, dSet, dDput, dNever, dFor, dNext, binP, cmpP, iSeqD, iRg1, iRg2, iZip, iEnumD, Tg.asg, setAll, List.set, List.map_cons, List.map_nil, subW, modW, fdivW, powW, ltW, leW, gtW, geW, newL, finD, frzO, tupW, listW, oneW, twoW, BI.w, ints_eq, add_int, add_str, add_tup, add_lst, mul_int, mul_lst, idx_tup, idx_lst, idx_scr, idx_str, len_tup, len_lst, len_scr, len_str, sl_tup, sl_lst, neg_int, str_int, str_str, int_int, int_bl, is_non, is_int, is_str, is_tup, is_lst, is_bl, is_bb, eq_int, eq_str, eq_bl, ne_int, ne_str, ne_bl, eq_nilL, ty_non, ty_bl, ty_int, ty_str, ty_tup, ty_lst, ty_scr, ty_dk, Ty.sub, tr_bl, tr_non, tr_int, tr_str, sv_lst, sv_tup, sv_scr, lv_lst, at0, at1, at2, cut1, len0, ss_nil, for_nil, for_cons, pairs_cons, pairs_nil, pairs_nil', walk_lst, walk_scr, walk_tup, walk_str, walk_ref, List.getElem?_cons_zero, List.getElem?_cons_succ, List.length_cons, List.length_nil, List.append_nil, List.cons_append, List.nil_append, Option.some.injEq, W.int.injEq, W.str.injEq, W.bl.injEq, W.tup.injEq, W.lst.injEq, W.ref.injEq, List.cons.injEq, Option.map_some, exists_and_left, exists_and_right, exists_eq_left, exists_eq_left', exists_eq, exists_eq', exists_eq_right, exists_eq_right', and_true, true_and, and_assoc, reduceIte, reduceCtorEq, decide_true, decide_false, decide_eq_true_eq, decide_eq_false_iff_not, Bool.not_eq_true', Bool.not_eq_false', Bool.true_eq_false, Bool.false_eq_true, if_true, if_false, Bool.not_true, Bool.not_false, ite_true, ite_false, Int.cast_ofNat_Int, Int.reduceAdd, Int.reduceSub, Int.reduceEq, Int.reduceLT, Int.reduceLE, Int.natCast_add, Nat.reduceEqDiff, Nat.reduceAdd, Nat.add_zero, Nat.zero_add, Nat.succ_ne_zero, not_true_eq_false, not_false_eq_true, Option.getD_some, Option.getD_none, f_l_next, f_l_leaf_v1, f_l_body_v1, f_l_call_v2, dn]
    exact use_leaf (Ex := Ex) false rfl hs1 ok (by omega) fun w M2 hw hs2 fr2 => q w M2 hw.bd hs2 (fr1.trans fr2)
  | true =>
  simp only [st_l_body_v1_5, dX, dXs, dXo, dXi, dSc, d2, d1, dN, dVar, dC, dTup, dLst, dTru, dB, dChain, dIte, dNotV, dNotT, dJoinV, dJoinT, dNil, dCons, dCall, dBM, dIsi, dIsi2, dAttr, dMeth, dNew, dDget, dDin, dDnew, dKidx, dKin, dKget, dDisp, dFrz, dSlice, dNoPart, dPart, dAsg, dExpr, dRet, dIf, dFld, dSet, dDput, dNever, dFor, dNext, binP, cmpP, iSeqD, iRg1, iRg2, iZip, iEnumD, Tg.asg, setAll, List.set, List.map_cons, List.map_nil, subW, modW, fdivW, powW, ltW, leW, gtW, geW, newL, finD, frzO, tupW, listW, oneW, twoW, BI.w, ints_eq, add_int, add_str, add_tup, add_lst, mul_int, mul_lst, idx_tup, idx_lst, idx_scr, idx_str, len_tup, len_lst, len_scr, len_str, sl_tup, sl_lst, neg_int, str_int, str_str, int_int, int_bl, is_non, is_int, is_str, is_tup, is_lst, is_bl, is_bb, eq_int, eq_str, eq_bl, ne_int, ne_str, ne_bl, eq_nilL, ty_non, ty_bl, ty_int, ty_str, ty_tup, ty_lst, ty_scr, ty_dk, Ty.sub, tr_bl, tr_non, tr_int, tr_str, sv_lst, sv_tup, sv_scr, lv_lst, at0, at1, at2, cut1, len0, ss_nil, for_nil, for_cons, pairs_cons, pairs_nil, pairs_nil', walk_lst, walk_scr, walk_tup, walk_str, walk_ref, List.getElem?_cons_zero, List.getElem?_cons_succ, List.length_cons, List.length_nil, List.append_nil, List.cons_append, List.nil_append, Option.some.injEq, W.int.injEq, W.str.injEq, W.bl.injEq, W.tup.injEq, W.lst.injEq, W.ref.injEq, List.cons.injEq, Option.map_some, exists_and_left, exists_and_right, exists_eq_left, exists_eq_left', exists_eq, exists_eq', exists_eq_right, exists_eq_right', and_true, true_and, and_assoc, reduceIte, reduceCtorEq, decide_true, decide_false, decide_eq_true_eq, decide_eq_false_iff_not, Bool.not_eq_true', Bool.not_eq_false', Bool.true_eq_false, Bool.false_eq_true, if_true, if_false, Bool.not_true, Bool.not_false, ite_true, ite_false, Int.cast_ofNat_Int, Int.reduceAdd, Int.reduceSub, Int.reduceEq, Int.reduceLT, Int.reduceLE, Int.natCast_add, Nat.reduceEqDiff, Nat.reduceAdd, Nat.add_zero, Nat.zero_add, Nat.succ_ne_zero, not_true_eq_false, not_false_eq_true, Option.getD_some, Option.getD_none]
  by_cases h8 : (r : Int) < 8
  · simp only [h8, if_true, decide_true, st_l_body_v1_15, dX, dXs, dXo, dXi, dSc, d2, d1, dN, dVar, dC, dTup, dLst, dTru, dB, dChain, dIte, dNotV, dNotT, dJoinV, dJoinT, dNil, dCons, dCall, dBM, dIsi, dIsi2, dAttr, dMeth, dNew, dDget, dDin, dDnew, dKidx, dKin, dKget, dDisp, dFrz, dSlice, dNoPart, dPart, dAsg, dExpr, dRet, dIf, dFld, dSet, dDput, dNever, dFor, dNext, binP, cmpP, iSeqD, iRg1, iRg2, iZip, iEnumD, Tg.asg, setAll, List.set, List.map_cons, List.map_nil, subW, modW, fdivW, powW, ltW, leW, gtW, geW, newL, finD, frzO, tupW, listW, oneW, twoW, BI.w, ints_eq, add_int, add_str, add_tup, add_lst, mul_int, mul_lst, idx_tup, idx_lst, idx_scr, idx_str, len_tup, len_lst, len_scr, len_str, sl_tup, sl_lst, neg_int, str_int, str_str, int_int, int_bl, is_non, is_int, is_str, is_tup, is_lst, is_bl, is_bb, eq_int, eq_str, eq_bl, ne_int, ne_str, ne_bl, eq_nilL, ty_non, ty_bl, ty_int, ty_str, ty_tup, ty_lst, ty_scr, ty_dk, Ty.sub, tr_bl, tr_non, tr_int, tr_str, sv_lst, sv_tup, sv_scr, lv_lst, at0, at1, at2, cut1, len0, ss_nil, for_nil, for_cons, pairs_cons, pairs_nil, pairs_nil', walk_lst, walk_scr, walk_tup, walk_str, walk_ref, List.getElem?_cons_zero, List.getElem?_cons_succ, List.length_cons, List.length_nil, List.append_nil, List.cons_append, List.nil_append, Option.some.injEq, W.int.injEq, W.str.injEq, W.bl.injEq, W.tup.injEq, W.lst.injEq, W.ref.injEq, List.cons.injEq, Option.map_some, exists_and_left, exists_and_right, exists_eq_left, exists_eq_left', exists_eq, exists_eq', exists_eq_right, exists_eq_right', and_true, true_and, and_assoc, reduceIte, reduceCtorEq, decide_true, decide_false, decide_eq_true_eq, decide_eq_false_iff_not, Bool.not_eq_true', Bool.not_eq_false', Bool.true_eq_false, Bool.false_eq_true, if_true, if_false, Bool.not_true, Bool.not_false, ite_true, ite_false, Int.cast_ofNat_Int, Int.reduceAdd, Int.reduceSub, Int.reduceEq, Int.reduceLT, Int.reduceLE, Int.natCast_add, Nat.reduceEqDiff, Nat.reduceAdd, Nat.add_zero, Nat.zero_add, Nat.succ_ne_zero, not_true_eq_false, not_false_eq_true, Option.getD_some, Option.getD_none, f_l_next, f_l_leaf_v1, f_l_body_v1, f_l_call_v2, dn]
    exact use_call (Ex := Ex) hs1 ok (by omega) fun w M2 hw hs2 fr2 => q w M2 hw hs2 (fr1.trans fr2)
  simp only [h8, if_false, decide_false, st_l_body_v1_6, dX, dXs, dXo, dXi, dSc, d2, d1, dN, dVar, dC, dTup, dLst, dTru, dB, dChain, dIte, dNotV, dNotT, dJoinV, dJoinT, dNil, dCons, dCall, dBM, dIsi, dIsi2, dAttr, dMeth, dNew, dDget, dDin, dDnew, dKidx, dKin, dKget, dDisp, dFrz, dSlice, dNoPart, dPart, dAsg, dExpr, dRet, dIf, dFld, dSet, dDput, dNever, dFor, dNext, binP, cmpP, iSeqD, iRg1, iRg2, iZip, iEnumD, Tg.asg, setAll, List.set, List.map_cons, List.map_nil, subW, modW, fdivW, powW, ltW, leW, gtW, geW, newL, finD, frzO, tupW, listW, oneW, twoW, BI.w, ints_eq, add_int, add_str, add_tup, add_lst, mul_int, mul_lst, idx_tup, idx_lst, idx_scr, idx_str, len_tup, len_lst, len_scr, len_str, sl_tup, sl_lst, neg_int, str_int, str_str, int_int, int_bl, is_non, is_int, is_str, is_tup, is_lst, is_bl, is_bb, eq_int, eq_str, eq_bl, ne_int, ne_str, ne_bl, eq_nilL, ty_non, ty_bl, ty_int, ty_str, ty_tup, ty_lst, ty_scr, ty_dk, Ty.sub, tr_bl, tr_non, tr_int, tr_str, sv_lst, sv_tup, sv_scr, lv_lst, at0, at1, at2, cut1, len0, ss_nil, for_nil, for_cons, pairs_cons, pairs_nil, pairs_nil', walk_lst, walk_scr, walk_tup, walk_str, walk_ref, List.getElem?_cons_zero, List.getElem?_cons_succ, List.length_cons, List.length_nil, List.append_nil, List.cons_append, List.nil_append, Option.some.injEq, W.int.injEq, W.str.injEq, W.bl.injEq, W.tup.injEq, W.lst.injEq, W.ref.injEq, List.cons.injEq, Option.map_some, exists_and_left, exists_and_right, exists_eq_left, exists_eq_left', exists_eq, exists_eq', exists_eq_right, exists_eq_right', and_true, true_and, and_assoc, reduceIte, reduceCtorEq, decide_true, decide_false, decide_eq_true_eq, decide_eq_false_iff_not, Bool.not_eq_true', Bool.not_eq_false', Bool.true_eq_false, Bool.false_eq_true, if_true, if_false, Bool.not_true, Bool.not_false, ite_true, ite_false, Int.cast_ofNat_Int, Int.reduceAdd, Int.reduceSub, Int.reduceEq, Int.reduceLT, Int.reduceLE, Int.natCast_add, Nat.reduceEqDiff, Nat.reduceAdd, Nat.add_zero, Nat.zero_add, Nat.succ_ne_zero, not_true_eq_false, not_false_eq_true, Option.getD_some, Option.getD_none]
  by_cases h9 : (r : Int) = 8
  · simp only [h9, if_true, decide_true, st_l_body_v1_16, dX, dXs, dXo, dXi, dSc, d2, d1, dN, dVar, dC, dTup, dLst, dTru, dB, dChain, dIte, dNotV, dNotT, dJoinV, dJoinT, dNil, dCons, dCall, dBM, dIsi, dIsi2, dAttr, dMeth, dNew, dDget, dDin, dDnew, dKidx, dKin, dKget, dDisp, dFrz, dSlice, dNoPart, dPart, dAsg, dExpr, dRet, dIf, dFld, dSet, dDput, dNever, dFor, dNext, binP, cmpP, iSeqD, iRg1, iRg2, iZip, iEnumD, Tg.asg, setAll, List.set, List.map_cons, List.map_nil, subW, modW, fdivW, powW, ltW, leW, gtW, geW, newL, finD, frzO, tupW, listW, oneW, twoW, BI.w, ints_eq, add_int, add_str, add_tup, add_lst, mul_int, mul_lst, idx_tup, idx_lst, idx_scr, idx_str, len_tup, len_lst, len_scr, len_str, sl_tup, sl_lst, neg_int, str_int, str_str, int_int, int_bl, is_non, is_int, is_str, is_tup, is_lst, is_bl, is_bb, eq_int, eq_str, eq_bl, ne_int, ne_str, ne_bl, eq_nilL, ty_non, ty_bl, ty_int, ty_str, ty_tup, ty_lst, ty_scr, ty_dk, Ty.sub, tr_bl, tr_non, tr_int, tr_str, sv_lst, sv_tup, sv_scr, lv_lst, at0, at1, at2, cut1, len0, ss_nil, for_nil, for_cons, pairs_cons, pairs_nil, pairs_nil', walk_lst, walk_scr, walk_tup, walk_str, walk_ref, List.getElem?_cons_zero, List.getElem?_cons_succ, List.length_cons, List.length_nil, List.append_nil, List.cons_append, List.nil_append, Option.some.injEq, W.int.injEq, W.str.injEq, W.bl.injEq, W.tup.injEq, W.lst.injEq, W.ref.injEq, List.cons.injEq, Option.map_some, exists_and_left, exists_and_right, exists_eq_left, exists_eq_left', exists_eq, exists_eq', exists_eq_right, exists_eq_right', and_true, true_and, and_assoc, reduceIte, reduceCtorEq, decide_true, decide_false, decide_eq_true_eq, decide_eq_false_iff_not, Bool.not_eq_true', Bool.not_eq_false', Bool.true_eq_false, Bool.false_eq_true, if_true, if_false, Bool.not_true, Bool.not_false, ite_true, ite_false, Int.cast_ofNat_Int, Int.reduceAdd, Int.reduceSub, Int.reduceEq, Int.reduceLT, Int.reduceLE, Int.natCast_add, Nat.reduceEqDiff, Nat.reduceAdd, Nat.add_zero, Nat.zero_add, Nat.succ_ne_zero, not_true_eq_false, not_false_eq_true, Option.getD_some, Option.getD_none, f_l_next, f_l_leaf_v1, f_l_body_v1, f_l_call_v2, dn, Int.add_sub_cancel]
    refine use_body (Ex := Ex) true rfl hs1 ok (by omega) fun w1 M2 hw1 hs2 fr2 => ?_
    obtain ⟨b1, rfl, o1, g1⟩ := hw1
    exact ⟨by decide, q _ _ ⟨.say b1, rfl, o1, by simp only [Bd.ht]; omega⟩ hs2 (fr1.trans fr2)⟩
  simp only [h9, if_false, decide_false, st_l_body_v1_7, dX, dXs, dXo, dXi, dSc, d2, d1, dN, dVar, dC, dTup, dLst, dTru, dB, dChain, dIte, dNotV, dNotT, dJoinV, dJoinT, dNil, dCons, dCall, dBM, dIsi, dIsi2, dAttr, dMeth, dNew, dDget, dDin, dDnew, dKidx, dKin, dKget, dDisp, dFrz, dSlice, dNoPart, dPart, dAsg, dExpr, dRet, dIf, dFld, dSet, dDput, dNever, dFor, dNext, binP, cmpP, iSeqD, iRg1, iRg2, iZip, iEnumD, Tg.asg, setAll, List.set, List.map_cons, List.map_nil, subW, modW, fdivW, powW, ltW, leW, gtW, geW, newL, finD, frzO, tupW, listW, oneW, twoW, BI.w, ints_eq, add_int, add_str, add_tup, add_lst, mul_int, mul_lst, idx_tup, idx_lst, idx_scr, idx_str, len_tup, len_lst, len_scr, len_str, sl_tup, sl_lst, neg_int, str_int, str_str, int_int, int_bl, is_non, is_int, is_str, is_tup, is_lst, is_bl, is_bb, eq_int, eq_str, eq_bl, ne_int, ne_str, ne_bl, eq_nilL, ty_non, ty_bl, ty_int, ty_str, ty_tup, ty_lst, ty_scr, ty_dk, Ty.sub, tr_bl, tr_non, tr_int, tr_str, sv_lst, sv_tup, sv_scr, lv_lst, at0, at1, at2, cut1, len0, ss_nil, for_nil, for_cons, pairs_cons, pairs_nil, pairs_nil', walk_lst, walk_scr, walk_tup, walk_str, walk_ref, List.getElem?_cons_zero, List.getElem?_cons_succ, List.length_cons, List.length_nil, List.append_nil, List.cons_append, List.nil_append, Option.some.injEq, W.int.injEq, W.str.injEq, W.bl.injEq, W.tup.injEq, W.lst.injEq, W.ref.injEq, List.cons.injEq, Option.map_some, exists_and_left, exists_and_right, exists_eq_left, exists_eq_left', exists_eq, exists_eq', exists_eq_right, exists_eq_right', and_true, true_and, and_assoc, reduceIte, reduceCtorEq, decide_true, decide_false, decide_eq_true_eq, decide_eq_false_iff_not, Bool.not_eq_true', Bool.not_eq_false', Bool.true_eq_false, Bool.false_eq_true, if_true, if_false, Bool.not_true, Bool.not_false, ite_true, ite_false, Int.cast_ofNat_Int, Int.reduceAdd, Int.reduceSub, Int.reduceEq, Int.reduceLT, Int.reduceLE, Int.natCast_add, Nat.reduceEqDiff, Nat.reduceAdd, Nat.add_zero, Nat.zero_add, Nat.succ_ne_zero, not_true_eq_false, not_false_eq_true, Option.getD_some, Option.getD_none, f_l_next, f_l_leaf_v1, f_l_body_v1, f_l_call_v2, dn]
  refine ⟨by decide, use_next 3 hs1 rfl (by decide) (by decide) fun r2 M2 hr2 hs2 fr2 => ?_⟩
  simp only [st_l_body_v1_8, dX, dXs, dXo, dXi, dSc, d2, d1, dN, dVar, dC, dTup, dLst, dTru, dB, dChain, dIte, dNotV, dNotT, dJoinV, dJoinT, dNil, dCons, dCall, dBM, dIsi, dIsi2, dAttr, dMeth, dNew, dDget, dDin, dDnew, dKidx, dKin, dKget, dDisp, dFrz, dSlice, dNoPart, dPart, dAsg, dExpr, dRet, dIf, dFld, dSet, dDput, dNever, dFor, dNext, binP, cmpP, iSeqD, iRg1, iRg2, iZip, iEnumD, Tg.asg, setAll, List.set, List.map_cons, List.map_nil, subW, modW, fdivW, powW, ltW, leW, gtW, geW, newL, finD, frzO, tupW, listW, oneW, twoW, BI.w, ints_eq, add_int, add_str, add_tup, add_lst, mul_int, mul_lst, idx_tup, idx_lst, idx_scr, idx_str, len_tup, len_lst, len_scr, len_str, sl_tup, sl_lst, neg_int, str_int, str_str, int_int, int_bl, is_non, is_int, is_str, is_tup, is_lst, is_bl, is_bb, eq_int, eq_str, eq_bl, ne_int, ne_str, ne_bl, eq_nilL, ty_non, ty_bl, ty_int, ty_str, ty_tup, ty_lst, ty_scr, ty_dk, Ty.sub, tr_bl, tr_non, tr_int, tr_str, sv_lst, sv_tup, sv_scr, lv_lst, at0, at1, at2, cut1, len0, ss_nil, for_nil, for_cons, pairs_cons, pairs_nil, pairs_nil', walk_lst, walk_scr, walk_tup, walk_str, walk_ref, List.getElem?_cons_zero, List.getElem?_cons_succ, List.length_cons, List.length_nil, List.append_nil, List.cons_append, List.nil_append, Option.some.injEq, W.int.injEq, W.str.injEq, W.bl.injEq, W.tup.injEq, W.lst.injEq, W.ref.injEq, List.cons.injEq, Option.map_some, exists_and_left, exists_and_right, exists_eq_left, exists_eq_left', exists_eq, exists_eq', exists_eq_right, exists_eq_right', and_true, true_and, and_assoc, reduceIte, reduceCtorEq, decide_true, decide_false, decide_eq_true_eq, decide_eq_false_iff_not, Bool.not_eq_true', Bool.not_eq_false', Bool.true_eq_false, Bool.false_eq_true, if_true, if_false, Bool.not_true, Bool.not_false, ite_true, ite_false, Int.cast_ofNat_Int, Int.reduceAdd, Int.reduceSub, Int.reduceEq, Int.reduceLT, Int.reduceLE, Int.natCast_add, Nat.reduceEqDiff, Nat.reduceAdd, Nat.add_zero, Nat.zero_add, Nat.succ_ne_zero, not_true_eq_false, not_false_eq_true, Option.getD_some, Option.getD_none, three_pick hr2, f_l_next, f_l_leaf_v1, f_l_body_v1, f_l_call_v2, dn, Int.add_sub_cancel]
  refine use_body (Ex := Ex) true rfl hs2 ok (by omega) fun w1 M3 hw1 hs3 fr3 => ?_
  refine use_body (Ex := Ex) true rfl hs3 ok (by omega) fun w2 M4 hw2 hs4 fr4 => ?_
  obtain ⟨b1, rfl, o1, g1⟩ := hw1
  obtain ⟨b2, rfl, o2, g2⟩ := hw2
  exact ⟨by decide, q _ _ (two_bd o1 o2 g1 g2) hs4 (((fr1.trans fr2).trans fr3).trans fr4)⟩
end WL
namespace WL
open PySem L2
def c_l_words : Ss := .cons (.ret (.bin .Add false (.lit (.int 1)) (.blt false .sum (.cons (.lc false (.call 51 (.cons (.var 1) .nil)) (.name 1) (.seq (.var 0)) (.some (.isi .tup (.var 1))) [("_law_arm", 1)]) .nil)))) .nil
theorem st_l_words {Γ : Gam} {D : Dw} {σ : Sw} {M : Mh} : dSs Γ c_l_words D σ M = dSc Γ (.ret (.bin .Add false (.lit (.int 1)) (.blt false .sum (.cons (.lc false (.call 51 (.cons (.var 1) .nil)) (.name 1) (.seq (.var 0)) (.some (.isi .tup (.var 1))) [("_law_arm", 1)]) .nil)))) { D with nx := dSs Γ .nil D } σ M := rfl
def n_l_words : List Str := ["_law_body_here", "_law_arm"]
def c_l_program_10 : Ss := .cons (.asg (.name 7) (.tup (.cons (.lit (.str "if")) (.cons (.tup (.cons (.lit (.str "argument")) .nil)) (.cons (.var 7) (.cons (.call 47 (.cons (.var 0) (.cons (.var 6) (.cons (.lit (.str "number")) .nil)))) .nil)))))) .nil
theorem st_l_program_10 {Γ : Gam} {D : Dw} {σ : Sw} {M : Mh} : dSs Γ c_l_program_10 D σ M = dSc Γ (.asg (.name 7) (.tup (.cons (.lit (.str "if")) (.cons (.tup (.cons (.lit (.str "argument")) .nil)) (.cons (.var 7) (.cons (.call 47 (.cons (.var 0) (.cons (.var 6) (.cons (.lit (.str "number")) .nil)))) .nil)))))) { D with nx := dSs Γ .nil D } σ M := rfl
def c_l_program_11 : Ss := .cons (.asg (.name 7) (.call 47 (.cons (.var 0) (.cons (.var 6) (.cons (.lit (.str "number")) .nil))))) .nil
theorem st_l_program_11 {Γ : Gam} {D : Dw} {σ : Sw} {M : Mh} : dSs Γ c_l_program_11 D σ M = dSc Γ (.asg (.name 7) (.call 47 (.cons (.var 0) (.cons (.var 6) (.cons (.lit (.str "number")) .nil))))) { D with nx := dSs Γ .nil D } σ M := rfl
def c_l_program_9 : Ss := .cons (.expr (.bm false .append (.var 4) (.cons (.tup (.cons (.bin .Add false (.lit (.int 1)) (.call 45 (.cons (.var 0) (.cons (.idx (.lst false (.cons (.lit (.int 2)) (.cons (.lit (.int 8)) .nil))) (.call 45 (.cons (.var 0) (.cons (.lit (.int 2)) .nil)))) .nil)))) (.cons (.var 7) .nil))) .nil))) .nil
theorem st_l_program_9 {Γ : Gam} {D : Dw} {σ : Sw} {M : Mh} : dSs Γ c_l_program_9 D σ M = dSc Γ (.expr (.bm false .append (.var 4) (.cons (.tup (.cons (.bin .Add false (.lit (.int 1)) (.call 45 (.cons (.var 0) (.cons (.idx (.lst false (.cons (.lit (.int 2)) (.cons (.lit (.int 8)) .nil))) (.call 45 (.cons (.var 0) (.cons (.lit (.int 2)) .nil)))) .nil)))) (.cons (.var 7) .nil))) .nil))) { D with nx := dSs Γ .nil D } σ M := rfl
def c_l_program_8 : Ss := .cons (.ite (.cmp .Gt (.call 51 (.cons (.var 7) .nil)) (.lit (.int 40))) c_l_program_11 .nil) c_l_program_9
theorem st_l_program_8 {Γ : Gam} {D : Dw} {σ : Sw} {M : Mh} : dSs Γ c_l_program_8 D σ M = dSc Γ (.ite (.cmp .Gt (.call 51 (.cons (.var 7) .nil)) (.lit (.int 40))) c_l_program_11 .nil) { D with nx := dSs Γ c_l_program_9 D } σ M := rfl
def c_l_program_7 : Ss := .cons (.ite (.bool true (.cons (.cmp .Eq (.var 5) (.lit (.str "number"))) (.cons (.cmp .Gt (.call 45 (.cons (.var 0) (.cons (.lit (.int 4)) .nil))) (.lit (.int 0))) .nil))) c_l_program_10 .nil) c_l_program_8
theorem st_l_program_7 {Γ : Gam} {D : Dw} {σ : Sw} {M : Mh} : dSs Γ c_l_program_7 D σ M = dSc Γ (.ite (.bool true (.cons (.cmp .Eq (.var 5) (.lit (.str "number"))) (.cons (.cmp .Gt (.call 45 (.cons (.var 0) (.cons (.lit (.int 4)) .nil))) (.lit (.int 0))) .nil))) c_l_program_10 .nil) { D with nx := dSs Γ c_l_program_8 D } σ M := rfl
def c_l_program_6 : Ss := .cons (.asg (.name 7) (.call 50 (.cons (.var 0) (.cons (.var 6) (.cons (.idx (.lst false (.cons (.lit (.str "number")) (.cons (.lit (.str "number")) (.cons (.lit (.str "number")) (.cons (.lit (.str "way")) .nil))))) (.call 45 (.cons (.var 0) (.cons (.lit (.int 4)) .nil)))) (.cons (.bin .Add false (.lit (.int 2)) (.call 45 (.cons (.var 0) (.cons (.lit (.int 3)) .nil)))) .nil)))))) c_l_program_7
theorem st_l_program_6 {Γ : Gam} {D : Dw} {σ : Sw} {M : Mh} : dSs Γ c_l_program_6 D σ M = dSc Γ (.asg (.name 7) (.call 50 (.cons (.var 0) (.cons (.var 6) (.cons (.idx (.lst false (.cons (.lit (.str "number")) (.cons (.lit (.str "number")) (.cons (.lit (.str "number")) (.cons (.lit (.str "way")) .nil))))) (.call 45 (.cons (.var 0) (.cons (.lit (.int 4)) .nil)))) (.cons (.bin .Add false (.lit (.int 2)) (.call 45 (.cons (.var 0) (.cons (.lit (.int 3)) .nil)))) .nil)))))) { D with nx := dSs Γ c_l_program_7 D } σ M := rfl
def c_l_program_5 : Ss := .cons (.asg (.name 6) (.disp false ["came", "plain", "kinds"] (.cons (.var 5) (.cons (.var 3) (.cons (.var 2) .nil))))) c_l_program_6
theorem st_l_program_5 {Γ : Gam} {D : Dw} {σ : Sw} {M : Mh} : dSs Γ c_l_program_5 D σ M = dSc Γ (.asg (.name 6) (.disp false ["came", "plain", "kinds"] (.cons (.var 5) (.cons (.var 3) (.cons (.var 2) .nil))))) { D with nx := dSs Γ c_l_program_6 D } σ M := rfl
def c_l_program_4 : Ss := .cons (.ret (.blt false .tup (.cons (.var 4) .nil))) .nil
theorem st_l_program_4 {Γ : Gam} {D : Dw} {σ : Sw} {M : Mh} : dSs Γ c_l_program_4 D σ M = dSc Γ (.ret (.blt false .tup (.cons (.var 4) .nil))) { D with nx := dSs Γ .nil D } σ M := rfl
def c_l_program_3 : Ss := .cons (.for_ (.name 5) (.seq (.var 2)) c_l_program_5) c_l_program_4
theorem st_l_program_3 {Γ : Gam} {D : Dw} {σ : Sw} {M : Mh} : dSs Γ c_l_program_3 D σ M = dSc Γ (.for_ (.name 5) (.seq (.var 2)) c_l_program_5) { D with nx := dSs Γ c_l_program_4 D } σ M := rfl
def c_l_program_2 : Ss := .cons (.asg (.name 4) (.lst true .nil)) c_l_program_3
theorem st_l_program_2 {Γ : Gam} {D : Dw} {σ : Sw} {M : Mh} : dSs Γ c_l_program_2 D σ M = dSc Γ (.asg (.name 4) (.lst true .nil)) { D with nx := dSs Γ c_l_program_3 D } σ M := rfl
def c_l_program_1 : Ss := .cons (.asg (.name 3) (.lc false (.var 8) (.name 8) (.rg1 (.blt false .len (.cons (.var 2) .nil))) (.some (.cmp .Eq (.idx (.var 2) (.var 8)) (.lit (.str "number")))) [("_law_k", 8)])) c_l_program_2
theorem st_l_program_1 {Γ : Gam} {D : Dw} {σ : Sw} {M : Mh} : dSs Γ c_l_program_1 D σ M = dSc Γ (.asg (.name 3) (.lc false (.var 8) (.name 8) (.rg1 (.blt false .len (.cons (.var 2) .nil))) (.some (.cmp .Eq (.idx (.var 2) (.var 8)) (.lit (.str "number")))) [("_law_k", 8)])) { D with nx := dSs Γ c_l_program_2 D } σ M := rfl
def c_l_program : Ss := .cons (.asg (.name 2) (.bin .Add false (.lst false (.cons (.lit (.str "number")) .nil)) (.lc false (.idx (.lst false (.cons (.lit (.str "number")) (.cons (.lit (.str "number")) (.cons (.lit (.str "way")) .nil)))) (.call 45 (.cons (.var 0) (.cons (.lit (.int 3)) .nil)))) (.name 8) (.rg1 (.call 45 (.cons (.var 0) (.cons (.var 1) .nil)))) .none [("_law_k", 8)]))) c_l_program_1
theorem st_l_program {Γ : Gam} {D : Dw} {σ : Sw} {M : Mh} : dSs Γ c_l_program D σ M = dSc Γ (.asg (.name 2) (.bin .Add false (.lst false (.cons (.lit (.str "number")) .nil)) (.lc false (.idx (.lst false (.cons (.lit (.str "number")) (.cons (.lit (.str "number")) (.cons (.lit (.str "way")) .nil)))) (.call 45 (.cons (.var 0) (.cons (.lit (.int 3)) .nil)))) (.name 8) (.rg1 (.call 45 (.cons (.var 0) (.cons (.var 1) .nil)))) .none [("_law_k", 8)]))) { D with nx := dSs Γ c_l_program_1 D } σ M := rfl
def n_l_program : List Str := ["_law_h", "_law_most", "_law_kinds", "_law_plain", "_law_found", "_law_came", "_law_e", "_law_body_here", "_law_k"]
def c_l_text : Ss := .cons (.ret (.bm false .join (.lit (.str " ")) (.cons (.lc false (.ite (.isi .tup (.var 1)) (.call 94 (.cons (.var 1) .nil)) (.blt false .str (.cons (.var 1) .nil))) (.name 1) (.seq (.var 0)) .none [("_law_arm", 1)]) .nil))) .nil
theorem st_l_text {Γ : Gam} {D : Dw} {σ : Sw} {M : Mh} : dSs Γ c_l_text D σ M = dSc Γ (.ret (.bm false .join (.lit (.str " ")) (.cons (.lc false (.ite (.isi .tup (.var 1)) (.call 94 (.cons (.var 1) .nil)) (.blt false .str (.cons (.var 1) .nil))) (.name 1) (.seq (.var 0)) .none [("_law_arm", 1)]) .nil))) { D with nx := dSs Γ .nil D } σ M := rfl
def n_l_text : List Str := ["_law_body_here", "_law_arm"]
def Bd.args : Bd → List Bd
  | .plus a b => [a, b]
  | .less a b => [a, b]
  | .times a b => [a, b]
  | .iff a b c => [a, b, c]
  | .thn a b => [a, b]
  | .say a => [a]
  | .call _ a => [a]
  | .thr a b => [a, b]
  | _ => []
def Bd.parts (f : Bd → Option W) (g : W → Option W) : Bd → List (W × Option W)
  | .num n => [(.str "num", g (.str "num")), (.int n, g (.int n))]
  | .arg => [(.str "argument", g (.str "argument"))]
  | .way n => [(.str "way", g (.str "way")), (.int n, g (.int n))]
  | .plus a b => [(.str "plus", g (.str "plus")), (a.enc, f a), (b.enc, f b)]
  | .less a b => [(.str "less", g (.str "less")), (a.enc, f a), (b.enc, f b)]
  | .times a b => [(.str "times", g (.str "times")), (a.enc, f a), (b.enc, f b)]
  | .iff a b c => [(.str "if", g (.str "if")), (a.enc, f a), (b.enc, f b), (c.enc, f c)]
  | .thn a b => [(.str "then", g (.str "then")), (a.enc, f a), (b.enc, f b)]
  | .say a => [(.str "say", g (.str "say")), (a.enc, f a)]
  | .call n a => [(.str "call", g (.str "call")), (.int n, g (.int n)), (a.enc, f a)]
  | .thr a b => [(.str "through", g (.str "through")), (a.enc, f a), (b.enc, f b)]
theorem Bd.parts_ws {f : Bd → Option W} {g : W → Option W} (b : Bd) : b.ws = (b.parts f g).map (·.1) := by cases b <;> rfl
theorem Bd.parts_in {f : Bd → Option W} {g : W → Option W} {b : Bd} {p : W × Option W} (h : p ∈ b.parts f g) : (∃ a ∈ b.args, p = (a.enc, f a)) ∨ (∃ s, p = (.str s, g (.str s))) ∨ ∃ n : Nat, p = (.int n, g (.int n)) := by
  cases b <;> simp only [Bd.parts, List.mem_cons, List.not_mem_nil, or_false] at h
  case arg => subst h; exact .inr (.inl ⟨_, rfl⟩)
  case iff a b c => rcases h with rfl | rfl | rfl | rfl <;> first | exact .inr (.inl ⟨_, rfl⟩) | exact .inl ⟨_, by simp [Bd.args], rfl⟩
  all_goals first
    | (rcases h with rfl | rfl | rfl <;> first | exact .inr (.inl ⟨_, rfl⟩) | exact .inr (.inr ⟨_, rfl⟩) | exact .inl ⟨_, by simp [Bd.args], rfl⟩)
    | (rcases h with rfl | rfl <;> first | exact .inr (.inl ⟨_, rfl⟩) | exact .inr (.inr ⟨_, rfl⟩) | exact .inl ⟨_, by simp [Bd.args], rfl⟩)
theorem Bd.args_ht {b a : Bd} (h : a ∈ b.args) : a.ht + 1 ≤ b.ht := by
  cases b <;> simp only [Bd.args, List.mem_cons, List.not_mem_nil, or_false] at h
  case iff => rcases h with rfl | rfl | rfl <;> simp only [Bd.ht] <;> omega
  case say => subst h; simp only [Bd.ht]; omega
  case call => subst h; simp only [Bd.ht]; omega
  all_goals (rcases h with rfl | rfl <;> simp only [Bd.ht] <;> omega)
theorem Bd.ws_len (b : Bd) : b.ws.length ≤ 4 := by cases b <;> simp [Bd.ws]
def sp_l_words : Nat → Wp := fun k ws M Q _ => ∃ b : Bd, ws = [b.enc] ∧ b.ht ≤ k ∧ Q (.int b.cnt) M
theorem words_cnt (b : Bd) : ∃ ns : List Int, (b.parts (fun a => some (.int a.cnt)) (fun _ => none)).filterMap (·.2) = ns.map W.int ∧ (b.cnt : Int) = 1 + ns.sum := by
  cases b
  case num n => exact ⟨[], rfl, rfl⟩
  case arg => exact ⟨[], rfl, rfl⟩
  case way n => exact ⟨[], rfl, rfl⟩
  case iff a b c => exact ⟨[a.cnt, b.cnt, c.cnt], rfl, by simp [Bd.cnt]; omega⟩
  case say a => exact ⟨[a.cnt], rfl, by simp [Bd.cnt]⟩
  case call n a => exact ⟨[a.cnt], rfl, by simp [Bd.cnt]⟩
  all_goals
    rename_i a b
    exact ⟨[a.cnt, b.cnt], rfl, by simp [Bd.cnt]; omega⟩
theorem keep_l_words {Γ : Gam} {k : Nat} (f_l_words : Γ.fn 51 = dn sp_l_words k) : KeepC Γ n_l_words 1 c_l_words (sp_l_words k) := by
  rintro ws M Q Ex ⟨b, rfl, hk, q⟩
  refine ⟨rfl, ?_⟩
  show dSs Γ _ _ [some b.enc, none] M
  rw [Bd.enc_eq]
  simp only [st_l_words, dLc, wipeW, dX, dXs, dXo, dXi, dSc, d2, d1, dN, dVar, dC, dTup, dLst, dTru, dB, dChain, dIte, dNotV, dNotT, dJoinV, dJoinT, dNil, dCons, dCall, dBM, dIsi, dIsi2, dAttr, dMeth, dNew, dDget, dDin, dDnew, dKidx, dKin, dKget, dDisp, dFrz, dSlice, dNoPart, dPart, dAsg, dExpr, dRet, dIf, dFld, dSet, dDput, dNever, dFor, dNext, binP, cmpP, iSeqD, iRg1, iRg2, iZip, iEnumD, Tg.asg, setAll, List.set, List.map_cons, List.map_nil, subW, modW, fdivW, powW, ltW, leW, gtW, geW, newL, finD, frzO, tupW, listW, oneW, twoW, BI.w, ints_eq, add_int, add_str, add_tup, add_lst, mul_int, mul_lst, idx_tup, idx_lst, idx_scr, idx_str, len_tup, len_lst, len_scr, len_str, sl_tup, sl_lst, neg_int, str_int, str_str, int_int, int_bl, is_non, is_int, is_str, is_tup, is_lst, is_bl, is_bb, eq_int, eq_str, eq_bl, ne_int, ne_str, ne_bl, eq_nilL, ty_non, ty_bl, ty_int, ty_str, ty_tup, ty_lst, ty_scr, ty_dk, Ty.sub, tr_bl, tr_non, tr_int, tr_str, sv_lst, sv_tup, sv_scr, lv_lst, at0, at1, at2, cut1, len0, ss_nil, for_nil, for_cons, pairs_cons, pairs_nil, pairs_nil', walk_lst, walk_scr, walk_tup, walk_str, walk_ref, List.getElem?_cons_zero, List.getElem?_cons_succ, List.length_cons, List.length_nil, List.append_nil, List.cons_append, List.nil_append, Option.some.injEq, W.int.injEq, W.str.injEq, W.bl.injEq, W.tup.injEq, W.lst.injEq, W.ref.injEq, List.cons.injEq, Option.map_some, exists_and_left, exists_and_right, exists_eq_left, exists_eq_left', exists_eq, exists_eq', exists_eq_right, exists_eq_right', and_true, true_and, and_assoc, reduceIte, reduceCtorEq, decide_true, decide_false, decide_eq_true_eq, decide_eq_false_iff_not, Bool.not_eq_true', Bool.not_eq_false', Bool.true_eq_false, Bool.false_eq_true, if_true, if_false, Bool.not_true, Bool.not_false, ite_true, ite_false, Int.cast_ofNat_Int, Int.reduceAdd, Int.reduceSub, Int.reduceEq, Int.reduceLT, Int.reduceLE, Int.natCast_add, Nat.reduceEqDiff, Nat.reduceAdd, Nat.add_zero, Nat.zero_add, Nat.succ_ne_zero, not_true_eq_false, not_false_eq_true, Option.getD_some, Option.getD_none, f_l_words]
  refine ⟨szl (by have := b.ws_len; omega), lc_of (b.parts (fun a => some (.int a.cnt)) (fun _ => none)) b.parts_ws (fun _ _ _ => trivial) (fun D hD p hp us => ?_) ?_⟩
  · refine ⟨_, rfl, ?_⟩
    rcases Bd.parts_in hp with ⟨a, ha, rfl⟩ | ⟨s, rfl⟩ | ⟨n, rfl⟩
    · have := Bd.args_ht ha
      cases k with
      | zero => omega
      | succ k =>
      refine ⟨fun R h => ?_, fun y hy R h => ?_⟩
      · rw [Bd.enc_eq]
        simp only [dX, dXs, dXo, dXi, dSc, d2, d1, dN, dVar, dC, dTup, dLst, dTru, dB, dChain, dIte, dNotV, dNotT, dJoinV, dJoinT, dNil, dCons, dCall, dBM, dIsi, dIsi2, dAttr, dMeth, dNew, dDget, dDin, dDnew, dKidx, dKin, dKget, dDisp, dFrz, dSlice, dNoPart, dPart, dAsg, dExpr, dRet, dIf, dFld, dSet, dDput, dNever, dFor, dNext, binP, cmpP, iSeqD, iRg1, iRg2, iZip, iEnumD, Tg.asg, setAll, List.set, List.map_cons, List.map_nil, subW, modW, fdivW, powW, ltW, leW, gtW, geW, newL, finD, frzO, tupW, listW, oneW, twoW, BI.w, ints_eq, add_int, add_str, add_tup, add_lst, mul_int, mul_lst, idx_tup, idx_lst, idx_scr, idx_str, len_tup, len_lst, len_scr, len_str, sl_tup, sl_lst, neg_int, str_int, str_str, int_int, int_bl, is_non, is_int, is_str, is_tup, is_lst, is_bl, is_bb, eq_int, eq_str, eq_bl, ne_int, ne_str, ne_bl, eq_nilL, ty_non, ty_bl, ty_int, ty_str, ty_tup, ty_lst, ty_scr, ty_dk, Ty.sub, tr_bl, tr_non, tr_int, tr_str, sv_lst, sv_tup, sv_scr, lv_lst, at0, at1, at2, cut1, len0, ss_nil, for_nil, for_cons, pairs_cons, pairs_nil, pairs_nil', walk_lst, walk_scr, walk_tup, walk_str, walk_ref, List.getElem?_cons_zero, List.getElem?_cons_succ, List.length_cons, List.length_nil, List.append_nil, List.cons_append, List.nil_append, Option.some.injEq, W.int.injEq, W.str.injEq, W.bl.injEq, W.tup.injEq, W.lst.injEq, W.ref.injEq, List.cons.injEq, Option.map_some, exists_and_left, exists_and_right, exists_eq_left, exists_eq_left', exists_eq, exists_eq', exists_eq_right, exists_eq_right', and_true, true_and, and_assoc, reduceIte, reduceCtorEq, decide_true, decide_false, decide_eq_true_eq, decide_eq_false_iff_not, Bool.not_eq_true', Bool.not_eq_false', Bool.true_eq_false, Bool.false_eq_true, if_true, if_false, Bool.not_true, Bool.not_false, ite_true, ite_false, Int.cast_ofNat_Int, Int.reduceAdd, Int.reduceSub, Int.reduceEq, Int.reduceLT, Int.reduceLE, Int.natCast_add, Nat.reduceEqDiff, Nat.reduceAdd, Nat.add_zero, Nat.zero_add, Nat.succ_ne_zero, not_true_eq_false, not_false_eq_true, Option.getD_some, Option.getD_none]
        exact h
      · cases hy
        simp only [dX, dXs, dXo, dXi, dSc, d2, d1, dN, dVar, dC, dTup, dLst, dTru, dB, dChain, dIte, dNotV, dNotT, dJoinV, dJoinT, dNil, dCons, dCall, dBM, dIsi, dIsi2, dAttr, dMeth, dNew, dDget, dDin, dDnew, dKidx, dKin, dKget, dDisp, dFrz, dSlice, dNoPart, dPart, dAsg, dExpr, dRet, dIf, dFld, dSet, dDput, dNever, dFor, dNext, binP, cmpP, iSeqD, iRg1, iRg2, iZip, iEnumD, Tg.asg, setAll, List.set, List.map_cons, List.map_nil, subW, modW, fdivW, powW, ltW, leW, gtW, geW, newL, finD, frzO, tupW, listW, oneW, twoW, BI.w, ints_eq, add_int, add_str, add_tup, add_lst, mul_int, mul_lst, idx_tup, idx_lst, idx_scr, idx_str, len_tup, len_lst, len_scr, len_str, sl_tup, sl_lst, neg_int, str_int, str_str, int_int, int_bl, is_non, is_int, is_str, is_tup, is_lst, is_bl, is_bb, eq_int, eq_str, eq_bl, ne_int, ne_str, ne_bl, eq_nilL, ty_non, ty_bl, ty_int, ty_str, ty_tup, ty_lst, ty_scr, ty_dk, Ty.sub, tr_bl, tr_non, tr_int, tr_str, sv_lst, sv_tup, sv_scr, lv_lst, at0, at1, at2, cut1, len0, ss_nil, for_nil, for_cons, pairs_cons, pairs_nil, pairs_nil', walk_lst, walk_scr, walk_tup, walk_str, walk_ref, List.getElem?_cons_zero, List.getElem?_cons_succ, List.length_cons, List.length_nil, List.append_nil, List.cons_append, List.nil_append, Option.some.injEq, W.int.injEq, W.str.injEq, W.bl.injEq, W.tup.injEq, W.lst.injEq, W.ref.injEq, List.cons.injEq, Option.map_some, exists_and_left, exists_and_right, exists_eq_left, exists_eq_left', exists_eq, exists_eq', exists_eq_right, exists_eq_right', and_true, true_and, and_assoc, reduceIte, reduceCtorEq, decide_true, decide_false, decide_eq_true_eq, decide_eq_false_iff_not, Bool.not_eq_true', Bool.not_eq_false', Bool.true_eq_false, Bool.false_eq_true, if_true, if_false, Bool.not_true, Bool.not_false, ite_true, ite_false, Int.cast_ofNat_Int, Int.reduceAdd, Int.reduceSub, Int.reduceEq, Int.reduceLT, Int.reduceLE, Int.natCast_add, Nat.reduceEqDiff, Nat.reduceAdd, Nat.add_zero, Nat.zero_add, Nat.succ_ne_zero, not_true_eq_false, not_false_eq_true, Option.getD_some, Option.getD_none, dn]
        exact ⟨a, rfl, by omega, h⟩
    · exact ⟨fun R h => (by simp only [dX, dXs, dXo, dXi, dSc, d2, d1, dN, dVar, dC, dTup, dLst, dTru, dB, dChain, dIte, dNotV, dNotT, dJoinV, dJoinT, dNil, dCons, dCall, dBM, dIsi, dIsi2, dAttr, dMeth, dNew, dDget, dDin, dDnew, dKidx, dKin, dKget, dDisp, dFrz, dSlice, dNoPart, dPart, dAsg, dExpr, dRet, dIf, dFld, dSet, dDput, dNever, dFor, dNext, binP, cmpP, iSeqD, iRg1, iRg2, iZip, iEnumD, Tg.asg, setAll, List.set, List.map_cons, List.map_nil, subW, modW, fdivW, powW, ltW, leW, gtW, geW, newL, finD, frzO, tupW, listW, oneW, twoW, BI.w, ints_eq, add_int, add_str, add_tup, add_lst, mul_int, mul_lst, idx_tup, idx_lst, idx_scr, idx_str, len_tup, len_lst, len_scr, len_str, sl_tup, sl_lst, neg_int, str_int, str_str, int_int, int_bl, is_non, is_int, is_str, is_tup, is_lst, is_bl, is_bb, eq_int, eq_str, eq_bl, ne_int, ne_str, ne_bl, eq_nilL, ty_non, ty_bl, ty_int, ty_str, ty_tup, ty_lst, ty_scr, ty_dk, Ty.sub, tr_bl, tr_non, tr_int, tr_str, sv_lst, sv_tup, sv_scr, lv_lst, at0, at1, at2, cut1, len0, ss_nil, for_nil, for_cons, pairs_cons, pairs_nil, pairs_nil', walk_lst, walk_scr, walk_tup, walk_str, walk_ref, List.getElem?_cons_zero, List.getElem?_cons_succ, List.length_cons, List.length_nil, List.append_nil, List.cons_append, List.nil_append, Option.some.injEq, W.int.injEq, W.str.injEq, W.bl.injEq, W.tup.injEq, W.lst.injEq, W.ref.injEq, List.cons.injEq, Option.map_some, exists_and_left, exists_and_right, exists_eq_left, exists_eq_left', exists_eq, exists_eq', exists_eq_right, exists_eq_right', and_true, true_and, and_assoc, reduceIte, reduceCtorEq, decide_true, decide_false, decide_eq_true_eq, decide_eq_false_iff_not, Bool.not_eq_true', Bool.not_eq_false', Bool.true_eq_false, Bool.false_eq_true, if_true, if_false, Bool.not_true, Bool.not_false, ite_true, ite_false, Int.cast_ofNat_Int, Int.reduceAdd, Int.reduceSub, Int.reduceEq, Int.reduceLT, Int.reduceLE, Int.natCast_add, Nat.reduceEqDiff, Nat.reduceAdd, Nat.add_zero, Nat.zero_add, Nat.succ_ne_zero, not_true_eq_false, not_false_eq_true, Option.getD_some, Option.getD_none]; exact h), fun y hy => nomatch hy⟩
    · exact ⟨fun R h => (by simp only [dX, dXs, dXo, dXi, dSc, d2, d1, dN, dVar, dC, dTup, dLst, dTru, dB, dChain, dIte, dNotV, dNotT, dJoinV, dJoinT, dNil, dCons, dCall, dBM, dIsi, dIsi2, dAttr, dMeth, dNew, dDget, dDin, dDnew, dKidx, dKin, dKget, dDisp, dFrz, dSlice, dNoPart, dPart, dAsg, dExpr, dRet, dIf, dFld, dSet, dDput, dNever, dFor, dNext, binP, cmpP, iSeqD, iRg1, iRg2, iZip, iEnumD, Tg.asg, setAll, List.set, List.map_cons, List.map_nil, subW, modW, fdivW, powW, ltW, leW, gtW, geW, newL, finD, frzO, tupW, listW, oneW, twoW, BI.w, ints_eq, add_int, add_str, add_tup, add_lst, mul_int, mul_lst, idx_tup, idx_lst, idx_scr, idx_str, len_tup, len_lst, len_scr, len_str, sl_tup, sl_lst, neg_int, str_int, str_str, int_int, int_bl, is_non, is_int, is_str, is_tup, is_lst, is_bl, is_bb, eq_int, eq_str, eq_bl, ne_int, ne_str, ne_bl, eq_nilL, ty_non, ty_bl, ty_int, ty_str, ty_tup, ty_lst, ty_scr, ty_dk, Ty.sub, tr_bl, tr_non, tr_int, tr_str, sv_lst, sv_tup, sv_scr, lv_lst, at0, at1, at2, cut1, len0, ss_nil, for_nil, for_cons, pairs_cons, pairs_nil, pairs_nil', walk_lst, walk_scr, walk_tup, walk_str, walk_ref, List.getElem?_cons_zero, List.getElem?_cons_succ, List.length_cons, List.length_nil, List.append_nil, List.cons_append, List.nil_append, Option.some.injEq, W.int.injEq, W.str.injEq, W.bl.injEq, W.tup.injEq, W.lst.injEq, W.ref.injEq, List.cons.injEq, Option.map_some, exists_and_left, exists_and_right, exists_eq_left, exists_eq_left', exists_eq, exists_eq', exists_eq_right, exists_eq_right', and_true, true_and, and_assoc, reduceIte, reduceCtorEq, decide_true, decide_false, decide_eq_true_eq, decide_eq_false_iff_not, Bool.not_eq_true', Bool.not_eq_false', Bool.true_eq_false, Bool.false_eq_true, if_true, if_false, Bool.not_true, Bool.not_false, ite_true, ite_false, Int.cast_ofNat_Int, Int.reduceAdd, Int.reduceSub, Int.reduceEq, Int.reduceLT, Int.reduceLE, Int.natCast_add, Nat.reduceEqDiff, Nat.reduceAdd, Nat.add_zero, Nat.zero_add, Nat.succ_ne_zero, not_true_eq_false, not_false_eq_true, Option.getD_some, Option.getD_none]; exact h), fun y hy => nomatch hy⟩
  · obtain ⟨ns, h1, h2⟩ := words_cnt b
    rw [h1]
    refine ⟨ns, rfl, ?_⟩
    simp only [dX, dXs, dXo, dXi, dSc, d2, d1, dN, dVar, dC, dTup, dLst, dTru, dB, dChain, dIte, dNotV, dNotT, dJoinV, dJoinT, dNil, dCons, dCall, dBM, dIsi, dIsi2, dAttr, dMeth, dNew, dDget, dDin, dDnew, dKidx, dKin, dKget, dDisp, dFrz, dSlice, dNoPart, dPart, dAsg, dExpr, dRet, dIf, dFld, dSet, dDput, dNever, dFor, dNext, binP, cmpP, iSeqD, iRg1, iRg2, iZip, iEnumD, Tg.asg, setAll, List.set, List.map_cons, List.map_nil, subW, modW, fdivW, powW, ltW, leW, gtW, geW, newL, finD, frzO, tupW, listW, oneW, twoW, BI.w, ints_eq, add_int, add_str, add_tup, add_lst, mul_int, mul_lst, idx_tup, idx_lst, idx_scr, idx_str, len_tup, len_lst, len_scr, len_str, sl_tup, sl_lst, neg_int, str_int, str_str, int_int, int_bl, is_non, is_int, is_str, is_tup, is_lst, is_bl, is_bb, eq_int, eq_str, eq_bl, ne_int, ne_str, ne_bl, eq_nilL, ty_non, ty_bl, ty_int, ty_str, ty_tup, ty_lst, ty_scr, ty_dk, Ty.sub, tr_bl, tr_non, tr_int, tr_str, sv_lst, sv_tup, sv_scr, lv_lst, at0, at1, at2, cut1, len0, ss_nil, for_nil, for_cons, pairs_cons, pairs_nil, pairs_nil', walk_lst, walk_scr, walk_tup, walk_str, walk_ref, List.getElem?_cons_zero, List.getElem?_cons_succ, List.length_cons, List.length_nil, List.append_nil, List.cons_append, List.nil_append, Option.some.injEq, W.int.injEq, W.str.injEq, W.bl.injEq, W.tup.injEq, W.lst.injEq, W.ref.injEq, List.cons.injEq, Option.map_some, exists_and_left, exists_and_right, exists_eq_left, exists_eq_left', exists_eq, exists_eq', exists_eq_right, exists_eq_right', and_true, true_and, and_assoc, reduceIte, reduceCtorEq, decide_true, decide_false, decide_eq_true_eq, decide_eq_false_iff_not, Bool.not_eq_true', Bool.not_eq_false', Bool.true_eq_false, Bool.false_eq_true, if_true, if_false, Bool.not_true, Bool.not_false, ite_true, ite_false, Int.cast_ofNat_Int, Int.reduceAdd, Int.reduceSub, Int.reduceEq, Int.reduceLT, Int.reduceLE, Int.natCast_add, Nat.reduceEqDiff, Nat.reduceAdd, Nat.add_zero, Nat.zero_add, Nat.succ_ne_zero, not_true_eq_false, not_false_eq_true, Option.getD_some, Option.getD_none]
    rw [← h2]
    exact q
theorem kinds_of : ∀ {ys : List W}, (∀ y ∈ ys, ∃ b, y = kW b) → ∃ bs : List Bool, ys = bs.map kW
  | [], _ => ⟨[], rfl⟩
  | y :: ys, h => by
    obtain ⟨b, rfl⟩ := h y (by simp)
    obtain ⟨bs, rfl⟩ := kinds_of fun z hz => h z (List.mem_cons_of_mem _ hz)
    exact ⟨b :: bs, rfl⟩
theorem nnw_pick {r : Nat} (h : r < 3) : ∃ b, atI [W.str (Str.ofString "number"), W.str (Str.ofString "number"), W.str (Str.ofString "way")] (r : Int) = some (kW b) := by
  cases r with
  | zero => exact ⟨true, rfl⟩
  | succ r => cases r with
    | zero => exact ⟨true, rfl⟩
    | succ r => cases r with
      | zero => exact ⟨false, rfl⟩
      | succ r => omega
theorem nnnw_pick {r : Nat} (h : r < 4) : ∃ b, atI [W.str (Str.ofString "number"), W.str (Str.ofString "number"), W.str (Str.ofString "number"), W.str (Str.ofString "way")] (r : Int) = some (kW b) := by
  cases r with
  | zero => exact ⟨true, rfl⟩
  | succ r => cases r with
    | zero => exact ⟨true, rfl⟩
    | succ r => cases r with
      | zero => exact ⟨true, rfl⟩
      | succ r => cases r with
        | zero => exact ⟨false, rfl⟩
        | succ r => omega
theorem t8_pick {r : Nat} (h : r < 2) : ∃ n : Nat, atI [W.int 2, W.int 8] (r : Int) = some (.int n) ∧ 0 < n ∧ n ≤ 8 := by
  cases r with
  | zero => exact ⟨2, rfl, by decide, by decide⟩
  | succ r => cases r with
    | zero => exact ⟨8, rfl, by decide, by decide⟩
    | succ r => omega
def plainOf (kinds : List Bool) : List Nat := (List.range kinds.length).filter fun i => kinds[i]?.getD false
theorem plain_lt {kinds : List Bool} {f : Nat} (h : f ∈ plainOf kinds) : f < kinds.length := List.mem_range.mp (List.mem_filter.mp h).1
theorem plain_ne {bs : List Bool} : 1 ≤ (plainOf (true :: bs)).length := by
  have : 0 ∈ plainOf (true :: bs) := List.mem_filter.mpr ⟨List.mem_range.mpr (by simp), by simp⟩
  exact List.length_pos_of_mem this
theorem plain_le {kinds : List Bool} : (plainOf kinds).length ≤ kinds.length := by
  have := List.length_filter_le (fun i => kinds[i]?.getD false) (List.range kinds.length)
  simpa [plainOf] using this
def plainPs (kinds : List Bool) : List (W × Option W) := (List.range kinds.length).map fun i : Nat => (W.int i, if kinds[i]?.getD false then some (W.int i) else none)
theorem plainPs_fst {kinds : List Bool} : rangeL 0 kinds.length = (plainPs kinds).map (·.1) := by
  unfold rangeL plainPs
  simp [Function.comp]
theorem plainPs_snd {kinds : List Bool} : (plainPs kinds).filterMap (·.2) = (plainOf kinds).map fun f : Nat => W.int f := by
  unfold plainPs plainOf
  generalize List.range kinds.length = l
  induction l with
  | nil => rfl
  | cons i l ih =>
    rw [List.map_cons, List.filterMap_cons, List.filter_cons]
    cases h : kinds[i]?.getD false with
    | false => simpa [h] using ih
    | true => simpa [h] using ih
def sp_l_program : Nat → Wp := fun k ws M Q _ => ∃ (a s : Addr) (most : Nat), ws = [.ref a, .int most] ∧ Hs a s M ∧ 1 ≤ most ∧ most ≤ 8 ∧ 15 ≤ k ∧ ∀ p M', PrOk p → p.length ≤ most → Hs a s M' → Fr a s M M' → Q (encP p) M'
theorem keep_l_program {Γ : Gam} {k : Nat} (f_l_body_v1 : Γ.fn 50 = dn sp_l_body_v1 k) (f_l_words : Γ.fn 51 = dn sp_l_words k) (f_l_leaf_v1 : Γ.fn 47 = dn sp_l_leaf_v1 k) (f_l_next : Γ.fn 45 = dn sp_l_next k) : KeepC Γ n_l_program 2 c_l_program (sp_l_program k) := by
  rintro ws M Q Ex ⟨a, s, most, rfl, hs, hm1, hm8, hk, q⟩
  refine ⟨rfl, ?_⟩
  show dSs Γ _ _ [some (.ref a), some (.int most), none, none, none, none, none, none, none] M
  cases k with
  | zero => omega
  | succ k =>
  simp only [st_l_program, dLc, wipeW, dX, dXs, dXo, dXi, dSc, d2, d1, dN, dVar, dC, dTup, dLst, dTru, dB, dChain, dIte, dNotV, dNotT, dJoinV, dJoinT, dNil, dCons, dCall, dBM, dIsi, dIsi2, dAttr, dMeth, dNew, dDget, dDin, dDnew, dKidx, dKin, dKget, dDisp, dFrz, dSlice, dNoPart, dPart, dAsg, dExpr, dRet, dIf, dFld, dSet, dDput, dNever, dFor, dNext, binP, cmpP, iSeqD, iRg1, iRg2, iZip, iEnumD, Tg.asg, setAll, List.set, List.map_cons, List.map_nil, subW, modW, fdivW, powW, ltW, leW, gtW, geW, newL, finD, frzO, tupW, listW, oneW, twoW, BI.w, ints_eq, add_int, add_str, add_tup, add_lst, mul_int, mul_lst, idx_tup, idx_lst, idx_scr, idx_str, len_tup, len_lst, len_scr, len_str, sl_tup, sl_lst, neg_int, str_int, str_str, int_int, int_bl, is_non, is_int, is_str, is_tup, is_lst, is_bl, is_bb, eq_int, eq_str, eq_bl, ne_int, ne_str, ne_bl, eq_nilL, ty_non, ty_bl, ty_int, ty_str, ty_tup, ty_lst, ty_scr, ty_dk, Ty.sub, tr_bl, tr_non, tr_int, tr_str, sv_lst, sv_tup, sv_scr, lv_lst, at0, at1, at2, cut1, len0, ss_nil, for_nil, for_cons, pairs_cons, pairs_nil, pairs_nil', walk_lst, walk_scr, walk_tup, walk_str, walk_ref, List.getElem?_cons_zero, List.getElem?_cons_succ, List.length_cons, List.length_nil, List.append_nil, List.cons_append, List.nil_append, Option.some.injEq, W.int.injEq, W.str.injEq, W.bl.injEq, W.tup.injEq, W.lst.injEq, W.ref.injEq, List.cons.injEq, Option.map_some, exists_and_left, exists_and_right, exists_eq_left, exists_eq_left', exists_eq, exists_eq', exists_eq_right, exists_eq_right', and_true, true_and, and_assoc, reduceIte, reduceCtorEq, decide_true, decide_false, decide_eq_true_eq, decide_eq_false_iff_not, Bool.not_eq_true', Bool.not_eq_false', Bool.true_eq_false, Bool.false_eq_true, if_true, if_false, Bool.not_true, Bool.not_false, ite_true, ite_false, Int.cast_ofNat_Int, Int.reduceAdd, Int.reduceSub, Int.reduceEq, Int.reduceLT, Int.reduceLE, Int.natCast_add, Nat.reduceEqDiff, Nat.reduceAdd, Nat.add_zero, Nat.zero_add, Nat.succ_ne_zero, not_true_eq_false, not_false_eq_true, Option.getD_some, Option.getD_none, f_l_body_v1, f_l_words, f_l_leaf_v1, f_l_next, dn]
  refine ⟨by decide, use_next most hs rfl (by omega) (by omega) fun r M1 hr hs1 fr1 => ?_⟩
  simp only [dX, dXs, dXo, dXi, dSc, d2, d1, dN, dVar, dC, dTup, dLst, dTru, dB, dChain, dIte, dNotV, dNotT, dJoinV, dJoinT, dNil, dCons, dCall, dBM, dIsi, dIsi2, dAttr, dMeth, dNew, dDget, dDin, dDnew, dKidx, dKin, dKget, dDisp, dFrz, dSlice, dNoPart, dPart, dAsg, dExpr, dRet, dIf, dFld, dSet, dDput, dNever, dFor, dNext, binP, cmpP, iSeqD, iRg1, iRg2, iZip, iEnumD, Tg.asg, setAll, List.set, List.map_cons, List.map_nil, subW, modW, fdivW, powW, ltW, leW, gtW, geW, newL, finD, frzO, tupW, listW, oneW, twoW, BI.w, ints_eq, add_int, add_str, add_tup, add_lst, mul_int, mul_lst, idx_tup, idx_lst, idx_scr, idx_str, len_tup, len_lst, len_scr, len_str, sl_tup, sl_lst, neg_int, str_int, str_str, int_int, int_bl, is_non, is_int, is_str, is_tup, is_lst, is_bl, is_bb, eq_int, eq_str, eq_bl, ne_int, ne_str, ne_bl, eq_nilL, ty_non, ty_bl, ty_int, ty_str, ty_tup, ty_lst, ty_scr, ty_dk, Ty.sub, tr_bl, tr_non, tr_int, tr_str, sv_lst, sv_tup, sv_scr, lv_lst, at0, at1, at2, cut1, len0, ss_nil, for_nil, for_cons, pairs_cons, pairs_nil, pairs_nil', walk_lst, walk_scr, walk_tup, walk_str, walk_ref, List.getElem?_cons_zero, List.getElem?_cons_succ, List.length_cons, List.length_nil, List.append_nil, List.cons_append, List.nil_append, Option.some.injEq, W.int.injEq, W.str.injEq, W.bl.injEq, W.tup.injEq, W.lst.injEq, W.ref.injEq, List.cons.injEq, Option.map_some, exists_and_left, exists_and_right, exists_eq_left, exists_eq_left', exists_eq, exists_eq', exists_eq_right, exists_eq_right', and_true, true_and, and_assoc, reduceIte, reduceCtorEq, decide_true, decide_false, decide_eq_true_eq, decide_eq_false_iff_not, Bool.not_eq_true', Bool.not_eq_false', Bool.true_eq_false, Bool.false_eq_true, if_true, if_false, Bool.not_true, Bool.not_false, ite_true, ite_false, Int.cast_ofNat_Int, Int.reduceAdd, Int.reduceSub, Int.reduceEq, Int.reduceLT, Int.reduceLE, Int.natCast_add, Nat.reduceEqDiff, Nat.reduceAdd, Nat.add_zero, Nat.zero_add, Nat.succ_ne_zero, not_true_eq_false, not_false_eq_true, Option.getD_some, Option.getD_none]
  refine ⟨by omega, by omega, by rw [rangeL_len]; exact szl (by omega), lc_rng0 (fun y => ∃ b, y = kW b) (fun _ => trivial) hs1 (fun x hx M2 K hs2 fr2 hK => ?_) fun ys M2 hl hP hs2 fr2 => ?_⟩
  · simp only [dX, dXs, dXo, dXi, dSc, d2, d1, dN, dVar, dC, dTup, dLst, dTru, dB, dChain, dIte, dNotV, dNotT, dJoinV, dJoinT, dNil, dCons, dCall, dBM, dIsi, dIsi2, dAttr, dMeth, dNew, dDget, dDin, dDnew, dKidx, dKin, dKget, dDisp, dFrz, dSlice, dNoPart, dPart, dAsg, dExpr, dRet, dIf, dFld, dSet, dDput, dNever, dFor, dNext, binP, cmpP, iSeqD, iRg1, iRg2, iZip, iEnumD, Tg.asg, setAll, List.set, List.map_cons, List.map_nil, subW, modW, fdivW, powW, ltW, leW, gtW, geW, newL, finD, frzO, tupW, listW, oneW, twoW, BI.w, ints_eq, add_int, add_str, add_tup, add_lst, mul_int, mul_lst, idx_tup, idx_lst, idx_scr, idx_str, len_tup, len_lst, len_scr, len_str, sl_tup, sl_lst, neg_int, str_int, str_str, int_int, int_bl, is_non, is_int, is_str, is_tup, is_lst, is_bl, is_bb, eq_int, eq_str, eq_bl, ne_int, ne_str, ne_bl, eq_nilL, ty_non, ty_bl, ty_int, ty_str, ty_tup, ty_lst, ty_scr, ty_dk, Ty.sub, tr_bl, tr_non, tr_int, tr_str, sv_lst, sv_tup, sv_scr, lv_lst, at0, at1, at2, cut1, len0, ss_nil, for_nil, for_cons, pairs_cons, pairs_nil, pairs_nil', walk_lst, walk_scr, walk_tup, walk_str, walk_ref, List.getElem?_cons_zero, List.getElem?_cons_succ, List.length_cons, List.length_nil, List.append_nil, List.cons_append, List.nil_append, Option.some.injEq, W.int.injEq, W.str.injEq, W.bl.injEq, W.tup.injEq, W.lst.injEq, W.ref.injEq, List.cons.injEq, Option.map_some, exists_and_left, exists_and_right, exists_eq_left, exists_eq_left', exists_eq, exists_eq', exists_eq_right, exists_eq_right', and_true, true_and, and_assoc, reduceIte, reduceCtorEq, decide_true, decide_false, decide_eq_true_eq, decide_eq_false_iff_not, Bool.not_eq_true', Bool.not_eq_false', Bool.true_eq_false, Bool.false_eq_true, if_true, if_false, Bool.not_true, Bool.not_false, ite_true, ite_false, Int.cast_ofNat_Int, Int.reduceAdd, Int.reduceSub, Int.reduceEq, Int.reduceLT, Int.reduceLE, Int.natCast_add, Nat.reduceEqDiff, Nat.reduceAdd, Nat.add_zero, Nat.zero_add, Nat.succ_ne_zero, not_true_eq_false, not_false_eq_true, Option.getD_some, Option.getD_none, f_l_body_v1, f_l_words, f_l_leaf_v1, f_l_next, dn]
    refine ⟨by decide, use_next 3 hs2 rfl (by decide) (by decide) fun r2 M3 hr2 hs3 fr3 => ?_⟩
    obtain ⟨b, hb⟩ := nnw_pick hr2
    simp only [dX, dXs, dXo, dXi, dSc, d2, d1, dN, dVar, dC, dTup, dLst, dTru, dB, dChain, dIte, dNotV, dNotT, dJoinV, dJoinT, dNil, dCons, dCall, dBM, dIsi, dIsi2, dAttr, dMeth, dNew, dDget, dDin, dDnew, dKidx, dKin, dKget, dDisp, dFrz, dSlice, dNoPart, dPart, dAsg, dExpr, dRet, dIf, dFld, dSet, dDput, dNever, dFor, dNext, binP, cmpP, iSeqD, iRg1, iRg2, iZip, iEnumD, Tg.asg, setAll, List.set, List.map_cons, List.map_nil, subW, modW, fdivW, powW, ltW, leW, gtW, geW, newL, finD, frzO, tupW, listW, oneW, twoW, BI.w, ints_eq, add_int, add_str, add_tup, add_lst, mul_int, mul_lst, idx_tup, idx_lst, idx_scr, idx_str, len_tup, len_lst, len_scr, len_str, sl_tup, sl_lst, neg_int, str_int, str_str, int_int, int_bl, is_non, is_int, is_str, is_tup, is_lst, is_bl, is_bb, eq_int, eq_str, eq_bl, ne_int, ne_str, ne_bl, eq_nilL, ty_non, ty_bl, ty_int, ty_str, ty_tup, ty_lst, ty_scr, ty_dk, Ty.sub, tr_bl, tr_non, tr_int, tr_str, sv_lst, sv_tup, sv_scr, lv_lst, at0, at1, at2, cut1, len0, ss_nil, for_nil, for_cons, pairs_cons, pairs_nil, pairs_nil', walk_lst, walk_scr, walk_tup, walk_str, walk_ref, List.getElem?_cons_zero, List.getElem?_cons_succ, List.length_cons, List.length_nil, List.append_nil, List.cons_append, List.nil_append, Option.some.injEq, W.int.injEq, W.str.injEq, W.bl.injEq, W.tup.injEq, W.lst.injEq, W.ref.injEq, List.cons.injEq, Option.map_some, exists_and_left, exists_and_right, exists_eq_left, exists_eq_left', exists_eq, exists_eq', exists_eq_right, exists_eq_right', and_true, true_and, and_assoc, reduceIte, reduceCtorEq, decide_true, decide_false, decide_eq_true_eq, decide_eq_false_iff_not, Bool.not_eq_true', Bool.not_eq_false', Bool.true_eq_false, Bool.false_eq_true, if_true, if_false, Bool.not_true, Bool.not_false, ite_true, ite_false, Int.cast_ofNat_Int, Int.reduceAdd, Int.reduceSub, Int.reduceEq, Int.reduceLT, Int.reduceLE, Int.natCast_add, Nat.reduceEqDiff, Nat.reduceAdd, Nat.add_zero, Nat.zero_add, Nat.succ_ne_zero, not_true_eq_false, not_false_eq_true, Option.getD_some, Option.getD_none, hb]
    exact hK _ _ ⟨b, rfl⟩ hs3 fr3
  obtain ⟨bs, rfl⟩ := kinds_of hP
  rw [rangeL_len, List.length_map] at hl
  have ek : W.str (Str.ofString "number") :: List.map kW bs = (true :: bs).map kW := rfl
  simp only [dX, dXs, dXo, dXi, dSc, d2, d1, dN, dVar, dC, dTup, dLst, dTru, dB, dChain, dIte, dNotV, dNotT, dJoinV, dJoinT, dNil, dCons, dCall, dBM, dIsi, dIsi2, dAttr, dMeth, dNew, dDget, dDin, dDnew, dKidx, dKin, dKget, dDisp, dFrz, dSlice, dNoPart, dPart, dAsg, dExpr, dRet, dIf, dFld, dSet, dDput, dNever, dFor, dNext, binP, cmpP, iSeqD, iRg1, iRg2, iZip, iEnumD, Tg.asg, setAll, List.set, List.map_cons, List.map_nil, subW, modW, fdivW, powW, ltW, leW, gtW, geW, newL, finD, frzO, tupW, listW, oneW, twoW, BI.w, ints_eq, add_int, add_str, add_tup, add_lst, mul_int, mul_lst, idx_tup, idx_lst, idx_scr, idx_str, len_tup, len_lst, len_scr, len_str, sl_tup, sl_lst, neg_int, str_int, str_str, int_int, int_bl, is_non, is_int, is_str, is_tup, is_lst, is_bl, is_bb, eq_int, eq_str, eq_bl, ne_int, ne_str, ne_bl, eq_nilL, ty_non, ty_bl, ty_int, ty_str, ty_tup, ty_lst, ty_scr, ty_dk, Ty.sub, tr_bl, tr_non, tr_int, tr_str, sv_lst, sv_tup, sv_scr, lv_lst, at0, at1, at2, cut1, len0, ss_nil, for_nil, for_cons, pairs_cons, pairs_nil, pairs_nil', walk_lst, walk_scr, walk_tup, walk_str, walk_ref, List.getElem?_cons_zero, List.getElem?_cons_succ, List.length_cons, List.length_nil, List.append_nil, List.cons_append, List.nil_append, Option.some.injEq, W.int.injEq, W.str.injEq, W.bl.injEq, W.tup.injEq, W.lst.injEq, W.ref.injEq, List.cons.injEq, Option.map_some, exists_and_left, exists_and_right, exists_eq_left, exists_eq_left', exists_eq, exists_eq', exists_eq_right, exists_eq_right', and_true, true_and, and_assoc, reduceIte, reduceCtorEq, decide_true, decide_false, decide_eq_true_eq, decide_eq_false_iff_not, Bool.not_eq_true', Bool.not_eq_false', Bool.true_eq_false, Bool.false_eq_true, if_true, if_false, Bool.not_true, Bool.not_false, ite_true, ite_false, Int.cast_ofNat_Int, Int.reduceAdd, Int.reduceSub, Int.reduceEq, Int.reduceLT, Int.reduceLE, Int.natCast_add, Nat.reduceEqDiff, Nat.reduceAdd, Nat.add_zero, Nat.zero_add, Nat.succ_ne_zero, not_true_eq_false, not_false_eq_true, Option.getD_some, Option.getD_none]
  rw [ek]
  refine ⟨szl (by rw [List.length_map]; omega), ?_⟩
  have hn : (true :: bs).length = r + 1 := by rw [List.length_cons, hl]
  have hpn : 1 ≤ (plainOf (true :: bs)).length := plain_ne
  generalize true :: bs = kinds at hn hpn
  have hf0 : Fr a s M M2 := fr1.trans fr2
  clear ek hP fr2 fr1 hs1 hs
  simp only [st_l_program_1, dLc, wipeW, dX, dXs, dXo, dXi, dSc, d2, d1, dN, dVar, dC, dTup, dLst, dTru, dB, dChain, dIte, dNotV, dNotT, dJoinV, dJoinT, dNil, dCons, dCall, dBM, dIsi, dIsi2, dAttr, dMeth, dNew, dDget, dDin, dDnew, dKidx, dKin, dKget, dDisp, dFrz, dSlice, dNoPart, dPart, dAsg, dExpr, dRet, dIf, dFld, dSet, dDput, dNever, dFor, dNext, binP, cmpP, iSeqD, iRg1, iRg2, iZip, iEnumD, Tg.asg, setAll, List.set, List.map_cons, List.map_nil, subW, modW, fdivW, powW, ltW, leW, gtW, geW, newL, finD, frzO, tupW, listW, oneW, twoW, BI.w, ints_eq, add_int, add_str, add_tup, add_lst, mul_int, mul_lst, idx_tup, idx_lst, idx_scr, idx_str, len_tup, len_lst, len_scr, len_str, sl_tup, sl_lst, neg_int, str_int, str_str, int_int, int_bl, is_non, is_int, is_str, is_tup, is_lst, is_bl, is_bb, eq_int, eq_str, eq_bl, ne_int, ne_str, ne_bl, eq_nilL, ty_non, ty_bl, ty_int, ty_str, ty_tup, ty_lst, ty_scr, ty_dk, Ty.sub, tr_bl, tr_non, tr_int, tr_str, sv_lst, sv_tup, sv_scr, lv_lst, at0, at1, at2, cut1, len0, ss_nil, for_nil, for_cons, pairs_cons, pairs_nil, pairs_nil', walk_lst, walk_scr, walk_tup, walk_str, walk_ref, List.getElem?_cons_zero, List.getElem?_cons_succ, List.length_cons, List.length_nil, List.append_nil, List.cons_append, List.nil_append, Option.some.injEq, W.int.injEq, W.str.injEq, W.bl.injEq, W.tup.injEq, W.lst.injEq, W.ref.injEq, List.cons.injEq, Option.map_some, exists_and_left, exists_and_right, exists_eq_left, exists_eq_left', exists_eq, exists_eq', exists_eq_right, exists_eq_right', and_true, true_and, and_assoc, reduceIte, reduceCtorEq, decide_true, decide_false, decide_eq_true_eq, decide_eq_false_iff_not, Bool.not_eq_true', Bool.not_eq_false', Bool.true_eq_false, Bool.false_eq_true, if_true, if_false, Bool.not_true, Bool.not_false, ite_true, ite_false, Int.cast_ofNat_Int, Int.reduceAdd, Int.reduceSub, Int.reduceEq, Int.reduceLT, Int.reduceLE, Int.natCast_add, Nat.reduceEqDiff, Nat.reduceAdd, Nat.add_zero, Nat.zero_add, Nat.succ_ne_zero, not_true_eq_false, not_false_eq_true, Option.getD_some, Option.getD_none, List.length_map]
  refine ⟨by omega, by omega, by rw [rangeL_len]; exact szl (by omega), lc_of (plainPs kinds) plainPs_fst (fun _ _ _ => trivial) (fun D hD p hp us => ?_) ?_⟩
  · obtain ⟨i, hi, rfl⟩ := List.mem_map.mp hp
    have hi := List.mem_range.mp hi
    have e : kinds[i]?.getD false = kinds[i] := by rw [List.getElem?_eq_getElem hi]; rfl
    refine ⟨_, rfl, fun R h => ?_, fun y hy R h => ?_⟩
    · simp only [dX, dXs, dXo, dXi, dSc, d2, d1, dN, dVar, dC, dTup, dLst, dTru, dB, dChain, dIte, dNotV, dNotT, dJoinV, dJoinT, dNil, dCons, dCall, dBM, dIsi, dIsi2, dAttr, dMeth, dNew, dDget, dDin, dDnew, dKidx, dKin, dKget, dDisp, dFrz, dSlice, dNoPart, dPart, dAsg, dExpr, dRet, dIf, dFld, dSet, dDput, dNever, dFor, dNext, binP, cmpP, iSeqD, iRg1, iRg2, iZip, iEnumD, Tg.asg, setAll, List.set, List.map_cons, List.map_nil, subW, modW, fdivW, powW, ltW, leW, gtW, geW, newL, finD, frzO, tupW, listW, oneW, twoW, BI.w, ints_eq, add_int, add_str, add_tup, add_lst, mul_int, mul_lst, idx_tup, idx_lst, idx_scr, idx_str, len_tup, len_lst, len_scr, len_str, sl_tup, sl_lst, neg_int, str_int, str_str, int_int, int_bl, is_non, is_int, is_str, is_tup, is_lst, is_bl, is_bb, eq_int, eq_str, eq_bl, ne_int, ne_str, ne_bl, eq_nilL, ty_non, ty_bl, ty_int, ty_str, ty_tup, ty_lst, ty_scr, ty_dk, Ty.sub, tr_bl, tr_non, tr_int, tr_str, sv_lst, sv_tup, sv_scr, lv_lst, at0, at1, at2, cut1, len0, ss_nil, for_nil, for_cons, pairs_cons, pairs_nil, pairs_nil', walk_lst, walk_scr, walk_tup, walk_str, walk_ref, List.getElem?_cons_zero, List.getElem?_cons_succ, List.length_cons, List.length_nil, List.append_nil, List.cons_append, List.nil_append, Option.some.injEq, W.int.injEq, W.str.injEq, W.bl.injEq, W.tup.injEq, W.lst.injEq, W.ref.injEq, List.cons.injEq, Option.map_some, exists_and_left, exists_and_right, exists_eq_left, exists_eq_left', exists_eq, exists_eq', exists_eq_right, exists_eq_right', and_true, true_and, and_assoc, reduceIte, reduceCtorEq, decide_true, decide_false, decide_eq_true_eq, decide_eq_false_iff_not, Bool.not_eq_true', Bool.not_eq_false', Bool.true_eq_false, Bool.false_eq_true, if_true, if_false, Bool.not_true, Bool.not_false, ite_true, ite_false, Int.cast_ofNat_Int, Int.reduceAdd, Int.reduceSub, Int.reduceEq, Int.reduceLT, Int.reduceLE, Int.natCast_add, Nat.reduceEqDiff, Nat.reduceAdd, Nat.add_zero, Nat.zero_add, Nat.succ_ne_zero, not_true_eq_false, not_false_eq_true, Option.getD_some, Option.getD_none, kd_pick hi, kW_number]
      simp only [e] at h
      cases hb : kinds[i] with
      | false => rw [hb] at h; exact h
      | true => rw [hb] at h; exact h
    · simp only [e] at hy
      cases hb : kinds[i] with
      | false => rw [hb] at hy; cases hy
      | true =>
        rw [hb] at hy
        cases hy
        simp only [dX, dXs, dXo, dXi, dSc, d2, d1, dN, dVar, dC, dTup, dLst, dTru, dB, dChain, dIte, dNotV, dNotT, dJoinV, dJoinT, dNil, dCons, dCall, dBM, dIsi, dIsi2, dAttr, dMeth, dNew, dDget, dDin, dDnew, dKidx, dKin, dKget, dDisp, dFrz, dSlice, dNoPart, dPart, dAsg, dExpr, dRet, dIf, dFld, dSet, dDput, dNever, dFor, dNext, binP, cmpP, iSeqD, iRg1, iRg2, iZip, iEnumD, Tg.asg, setAll, List.set, List.map_cons, List.map_nil, subW, modW, fdivW, powW, ltW, leW, gtW, geW, newL, finD, frzO, tupW, listW, oneW, twoW, BI.w, ints_eq, add_int, add_str, add_tup, add_lst, mul_int, mul_lst, idx_tup, idx_lst, idx_scr, idx_str, len_tup, len_lst, len_scr, len_str, sl_tup, sl_lst, neg_int, str_int, str_str, int_int, int_bl, is_non, is_int, is_str, is_tup, is_lst, is_bl, is_bb, eq_int, eq_str, eq_bl, ne_int, ne_str, ne_bl, eq_nilL, ty_non, ty_bl, ty_int, ty_str, ty_tup, ty_lst, ty_scr, ty_dk, Ty.sub, tr_bl, tr_non, tr_int, tr_str, sv_lst, sv_tup, sv_scr, lv_lst, at0, at1, at2, cut1, len0, ss_nil, for_nil, for_cons, pairs_cons, pairs_nil, pairs_nil', walk_lst, walk_scr, walk_tup, walk_str, walk_ref, List.getElem?_cons_zero, List.getElem?_cons_succ, List.length_cons, List.length_nil, List.append_nil, List.cons_append, List.nil_append, Option.some.injEq, W.int.injEq, W.str.injEq, W.bl.injEq, W.tup.injEq, W.lst.injEq, W.ref.injEq, List.cons.injEq, Option.map_some, exists_and_left, exists_and_right, exists_eq_left, exists_eq_left', exists_eq, exists_eq', exists_eq_right, exists_eq_right', and_true, true_and, and_assoc, reduceIte, reduceCtorEq, decide_true, decide_false, decide_eq_true_eq, decide_eq_false_iff_not, Bool.not_eq_true', Bool.not_eq_false', Bool.true_eq_false, Bool.false_eq_true, if_true, if_false, Bool.not_true, Bool.not_false, ite_true, ite_false, Int.cast_ofNat_Int, Int.reduceAdd, Int.reduceSub, Int.reduceEq, Int.reduceLT, Int.reduceLE, Int.natCast_add, Nat.reduceEqDiff, Nat.reduceAdd, Nat.add_zero, Nat.zero_add, Nat.succ_ne_zero, not_true_eq_false, not_false_eq_true, Option.getD_some, Option.getD_none]
        exact h
  rw [plainPs_snd]
  simp only [st_l_program_2, dX, dXs, dXo, dXi, dSc, d2, d1, dN, dVar, dC, dTup, dLst, dTru, dB, dChain, dIte, dNotV, dNotT, dJoinV, dJoinT, dNil, dCons, dCall, dBM, dIsi, dIsi2, dAttr, dMeth, dNew, dDget, dDin, dDnew, dKidx, dKin, dKget, dDisp, dFrz, dSlice, dNoPart, dPart, dAsg, dExpr, dRet, dIf, dFld, dSet, dDput, dNever, dFor, dNext, binP, cmpP, iSeqD, iRg1, iRg2, iZip, iEnumD, Tg.asg, setAll, List.set, List.map_cons, List.map_nil, subW, modW, fdivW, powW, ltW, leW, gtW, geW, newL, finD, frzO, tupW, listW, oneW, twoW, BI.w, ints_eq, add_int, add_str, add_tup, add_lst, mul_int, mul_lst, idx_tup, idx_lst, idx_scr, idx_str, len_tup, len_lst, len_scr, len_str, sl_tup, sl_lst, neg_int, str_int, str_str, int_int, int_bl, is_non, is_int, is_str, is_tup, is_lst, is_bl, is_bb, eq_int, eq_str, eq_bl, ne_int, ne_str, ne_bl, eq_nilL, ty_non, ty_bl, ty_int, ty_str, ty_tup, ty_lst, ty_scr, ty_dk, Ty.sub, tr_bl, tr_non, tr_int, tr_str, sv_lst, sv_tup, sv_scr, lv_lst, at0, at1, at2, cut1, len0, ss_nil, for_nil, for_cons, pairs_cons, pairs_nil, pairs_nil', walk_lst, walk_scr, walk_tup, walk_str, walk_ref, List.getElem?_cons_zero, List.getElem?_cons_succ, List.length_cons, List.length_nil, List.append_nil, List.cons_append, List.nil_append, Option.some.injEq, W.int.injEq, W.str.injEq, W.bl.injEq, W.tup.injEq, W.lst.injEq, W.ref.injEq, List.cons.injEq, Option.map_some, exists_and_left, exists_and_right, exists_eq_left, exists_eq_left', exists_eq, exists_eq', exists_eq_right, exists_eq_right', and_true, true_and, and_assoc, reduceIte, reduceCtorEq, decide_true, decide_false, decide_eq_true_eq, decide_eq_false_iff_not, Bool.not_eq_true', Bool.not_eq_false', Bool.true_eq_false, Bool.false_eq_true, if_true, if_false, Bool.not_true, Bool.not_false, ite_true, ite_false, Int.cast_ofNat_Int, Int.reduceAdd, Int.reduceSub, Int.reduceEq, Int.reduceLT, Int.reduceLE, Int.natCast_add, Nat.reduceEqDiff, Nat.reduceAdd, Nat.add_zero, Nat.zero_add, Nat.succ_ne_zero, not_true_eq_false, not_false_eq_true, Option.getD_some, Option.getD_none]
  intro L hL
  obtain ⟨nL1, nL2⟩ := hs2.at_ne hL
  simp only [st_l_program_3, dX, dXs, dXo, dXi, dSc, d2, d1, dN, dVar, dC, dTup, dLst, dTru, dB, dChain, dIte, dNotV, dNotT, dJoinV, dJoinT, dNil, dCons, dCall, dBM, dIsi, dIsi2, dAttr, dMeth, dNew, dDget, dDin, dDnew, dKidx, dKin, dKget, dDisp, dFrz, dSlice, dNoPart, dPart, dAsg, dExpr, dRet, dIf, dFld, dSet, dDput, dNever, dFor, dNext, binP, cmpP, iSeqD, iRg1, iRg2, iZip, iEnumD, Tg.asg, setAll, List.set, List.map_cons, List.map_nil, subW, modW, fdivW, powW, ltW, leW, gtW, geW, newL, finD, frzO, tupW, listW, oneW, twoW, BI.w, ints_eq, add_int, add_str, add_tup, add_lst, mul_int, mul_lst, idx_tup, idx_lst, idx_scr, idx_str, len_tup, len_lst, len_scr, len_str, sl_tup, sl_lst, neg_int, str_int, str_str, int_int, int_bl, is_non, is_int, is_str, is_tup, is_lst, is_bl, is_bb, eq_int, eq_str, eq_bl, ne_int, ne_str, ne_bl, eq_nilL, ty_non, ty_bl, ty_int, ty_str, ty_tup, ty_lst, ty_scr, ty_dk, Ty.sub, tr_bl, tr_non, tr_int, tr_str, sv_lst, sv_tup, sv_scr, lv_lst, at0, at1, at2, cut1, len0, ss_nil, for_nil, for_cons, pairs_cons, pairs_nil, pairs_nil', walk_lst, walk_scr, walk_tup, walk_str, walk_ref, List.getElem?_cons_zero, List.getElem?_cons_succ, List.length_cons, List.length_nil, List.append_nil, List.cons_append, List.nil_append, Option.some.injEq, W.int.injEq, W.str.injEq, W.bl.injEq, W.tup.injEq, W.lst.injEq, W.ref.injEq, List.cons.injEq, Option.map_some, exists_and_left, exists_and_right, exists_eq_left, exists_eq_left', exists_eq, exists_eq', exists_eq_right, exists_eq_right', and_true, true_and, and_assoc, reduceIte, reduceCtorEq, decide_true, decide_false, decide_eq_true_eq, decide_eq_false_iff_not, Bool.not_eq_true', Bool.not_eq_false', Bool.true_eq_false, Bool.false_eq_true, if_true, if_false, Bool.not_true, Bool.not_false, ite_true, ite_false, Int.cast_ofNat_Int, Int.reduceAdd, Int.reduceSub, Int.reduceEq, Int.reduceLT, Int.reduceLE, Int.natCast_add, Nat.reduceEqDiff, Nat.reduceAdd, Nat.add_zero, Nat.zero_add, Nat.succ_ne_zero, not_true_eq_false, not_false_eq_true, Option.getD_some, Option.getD_none]
  refine for_inv (fun i σ M' => (∃ x5 x6 x7 x8, σ = [some (W.ref a), some (W.int most), some (W.lst (kinds.map kW)), some (W.lst ((plainOf kinds).map fun f : Nat => W.int f)), some (W.ref L), x5, x6, x7, x8]) ∧ Hs a s M' ∧ Fr a s M2 M' ∧
    ∃ fs : List (Nat × Bd), M' L = some (.lst (fs.map encF)) ∧ fs.length = i ∧ ∀ f ∈ fs, FOk kinds.length f) (fun _ _ _ _ => trivial) _ 0 ?_ (fun i x σ M' K e h hK => ?_) (fun σ M' h => ?_)
  · refine ⟨⟨_, _, _, _, rfl⟩, hs2.up nL1 nL2, fun b o hb h1 h2 => ?_, [], mup_at, rfl, by simp⟩
    rw [mup_off (fun z => by rw [z, hL] at hb; cases hb)]
    exact hb
  · obtain ⟨⟨x5, x6, x7, x8, rfl⟩, hs3, fr3, fs, hfs, hlen, hok⟩ := h
    obtain ⟨kd, rfl⟩ : ∃ kd, x = kW kd := by
      obtain ⟨b, _, h⟩ := List.mem_map.mp (List.mem_of_getElem? e)
      exact ⟨b, h.symm⟩
    have hil : i < kinds.length := by
      have := (List.getElem?_eq_some_iff.mp e).1
      simpa using this
    simp only [st_l_program_5, dDisp, zipK, dX, dXs, dXo, dXi, dSc, d2, d1, dN, dVar, dC, dTup, dLst, dTru, dB, dChain, dIte, dNotV, dNotT, dJoinV, dJoinT, dNil, dCons, dCall, dBM, dIsi, dIsi2, dAttr, dMeth, dNew, dDget, dDin, dDnew, dKidx, dKin, dKget, dDisp, dFrz, dSlice, dNoPart, dPart, dAsg, dExpr, dRet, dIf, dFld, dSet, dDput, dNever, dFor, dNext, binP, cmpP, iSeqD, iRg1, iRg2, iZip, iEnumD, Tg.asg, setAll, List.set, List.map_cons, List.map_nil, subW, modW, fdivW, powW, ltW, leW, gtW, geW, newL, finD, frzO, tupW, listW, oneW, twoW, BI.w, ints_eq, add_int, add_str, add_tup, add_lst, mul_int, mul_lst, idx_tup, idx_lst, idx_scr, idx_str, len_tup, len_lst, len_scr, len_str, sl_tup, sl_lst, neg_int, str_int, str_str, int_int, int_bl, is_non, is_int, is_str, is_tup, is_lst, is_bl, is_bb, eq_int, eq_str, eq_bl, ne_int, ne_str, ne_bl, eq_nilL, ty_non, ty_bl, ty_int, ty_str, ty_tup, ty_lst, ty_scr, ty_dk, Ty.sub, tr_bl, tr_non, tr_int, tr_str, sv_lst, sv_tup, sv_scr, lv_lst, at0, at1, at2, cut1, len0, ss_nil, for_nil, for_cons, pairs_cons, pairs_nil, pairs_nil', walk_lst, walk_scr, walk_tup, walk_str, walk_ref, List.getElem?_cons_zero, List.getElem?_cons_succ, List.length_cons, List.length_nil, List.append_nil, List.cons_append, List.nil_append, Option.some.injEq, W.int.injEq, W.str.injEq, W.bl.injEq, W.tup.injEq, W.lst.injEq, W.ref.injEq, List.cons.injEq, Option.map_some, exists_and_left, exists_and_right, exists_eq_left, exists_eq_left', exists_eq, exists_eq', exists_eq_right, exists_eq_right', and_true, true_and, and_assoc, reduceIte, reduceCtorEq, decide_true, decide_false, decide_eq_true_eq, decide_eq_false_iff_not, Bool.not_eq_true', Bool.not_eq_false', Bool.true_eq_false, Bool.false_eq_true, if_true, if_false, Bool.not_true, Bool.not_false, ite_true, ite_false, Int.cast_ofNat_Int, Int.reduceAdd, Int.reduceSub, Int.reduceEq, Int.reduceLT, Int.reduceLE, Int.natCast_add, Nat.reduceEqDiff, Nat.reduceAdd, Nat.add_zero, Nat.zero_add, Nat.succ_ne_zero, not_true_eq_false, not_false_eq_true, Option.getD_some, Option.getD_none]
    intro p hp
    rw [mdel_mup hp]
    refine ⟨mup_at, ?_⟩
    have evok : (Ev.mk kd (plainOf kinds) kinds).Ok := ⟨hpn, fun f hf => plain_lt hf, Nat.le_trans plain_le (by omega), by show 1 ≤ kinds.length; omega, by show kinds.length ≤ 8; omega⟩
    generalize hev : Ev.mk kd (plainOf kinds) kinds = ev at evok
    have hkl : ev.kinds.length = kinds.length := by rw [← hev]
    show dSs Γ c_l_program_6 _ [some (W.ref a), some (W.int most), some (W.lst (kinds.map kW)), some (W.lst ((plainOf kinds).map fun f : Nat => W.int f)), some (W.ref L), some (kW kd), some (Ev.mk kd (plainOf kinds) kinds).enc, x7, x8] M'
    rw [hev]
    have fin : ∀ (b : Bd) (y : Option W) M4, b.ok kinds.length → b.ht ≤ 6 → b.cnt ≤ 40 → Hs a s M4 → Fr a s M' M4 →
        dSs Γ c_l_program_9 { nx := K, rt := Q, bk := dSs Γ c_l_program_4 { nx := fun x M' => Q W.non M', rt := Q, ex := Ex }, ct := K, ex := Ex }
          [some (W.ref a), some (W.int most), some (W.lst (kinds.map kW)), some (W.lst ((plainOf kinds).map fun f : Nat => W.int f)), some (W.ref L), some (kW kd), some ev.enc, some b.enc, y] M4 := by
      intro b y M4 ob hb cb hs4 fr4
      have hf4 := fr4 L _ hfs nL1 nL2
      simp only [st_l_program_9, BM.recv, BM.w, appendW, dX, dXs, dXo, dXi, dSc, d2, d1, dN, dVar, dC, dTup, dLst, dTru, dB, dChain, dIte, dNotV, dNotT, dJoinV, dJoinT, dNil, dCons, dCall, dBM, dIsi, dIsi2, dAttr, dMeth, dNew, dDget, dDin, dDnew, dKidx, dKin, dKget, dDisp, dFrz, dSlice, dNoPart, dPart, dAsg, dExpr, dRet, dIf, dFld, dSet, dDput, dNever, dFor, dNext, binP, cmpP, iSeqD, iRg1, iRg2, iZip, iEnumD, Tg.asg, setAll, List.set, List.map_cons, List.map_nil, subW, modW, fdivW, powW, ltW, leW, gtW, geW, newL, finD, frzO, tupW, listW, oneW, twoW, BI.w, ints_eq, add_int, add_str, add_tup, add_lst, mul_int, mul_lst, idx_tup, idx_lst, idx_scr, idx_str, len_tup, len_lst, len_scr, len_str, sl_tup, sl_lst, neg_int, str_int, str_str, int_int, int_bl, is_non, is_int, is_str, is_tup, is_lst, is_bl, is_bb, eq_int, eq_str, eq_bl, ne_int, ne_str, ne_bl, eq_nilL, ty_non, ty_bl, ty_int, ty_str, ty_tup, ty_lst, ty_scr, ty_dk, Ty.sub, tr_bl, tr_non, tr_int, tr_str, sv_lst, sv_tup, sv_scr, lv_lst, at0, at1, at2, cut1, len0, ss_nil, for_nil, for_cons, pairs_cons, pairs_nil, pairs_nil', walk_lst, walk_scr, walk_tup, walk_str, walk_ref, List.getElem?_cons_zero, List.getElem?_cons_succ, List.length_cons, List.length_nil, List.append_nil, List.cons_append, List.nil_append, Option.some.injEq, W.int.injEq, W.str.injEq, W.bl.injEq, W.tup.injEq, W.lst.injEq, W.ref.injEq, List.cons.injEq, Option.map_some, exists_and_left, exists_and_right, exists_eq_left, exists_eq_left', exists_eq, exists_eq', exists_eq_right, exists_eq_right', and_true, true_and, and_assoc, reduceIte, reduceCtorEq, decide_true, decide_false, decide_eq_true_eq, decide_eq_false_iff_not, Bool.not_eq_true', Bool.not_eq_false', Bool.true_eq_false, Bool.false_eq_true, if_true, if_false, Bool.not_true, Bool.not_false, ite_true, ite_false, Int.cast_ofNat_Int, Int.reduceAdd, Int.reduceSub, Int.reduceEq, Int.reduceLT, Int.reduceLE, Int.natCast_add, Nat.reduceEqDiff, Nat.reduceAdd, Nat.add_zero, Nat.zero_add, Nat.succ_ne_zero, not_true_eq_false, not_false_eq_true, Option.getD_some, Option.getD_none, f_l_body_v1, f_l_words, f_l_leaf_v1, f_l_next, dn]
      refine ⟨rfl, ⟨_, hf4⟩, by decide, use_next 2 hs4 rfl (by decide) (by decide) fun r4 M5 hr4 hs5 fr5 => ?_⟩
      obtain ⟨m, hm, m1, m8⟩ := t8_pick hr4
      simp only [dX, dXs, dXo, dXi, dSc, d2, d1, dN, dVar, dC, dTup, dLst, dTru, dB, dChain, dIte, dNotV, dNotT, dJoinV, dJoinT, dNil, dCons, dCall, dBM, dIsi, dIsi2, dAttr, dMeth, dNew, dDget, dDin, dDnew, dKidx, dKin, dKget, dDisp, dFrz, dSlice, dNoPart, dPart, dAsg, dExpr, dRet, dIf, dFld, dSet, dDput, dNever, dFor, dNext, binP, cmpP, iSeqD, iRg1, iRg2, iZip, iEnumD, Tg.asg, setAll, List.set, List.map_cons, List.map_nil, subW, modW, fdivW, powW, ltW, leW, gtW, geW, newL, finD, frzO, tupW, listW, oneW, twoW, BI.w, ints_eq, add_int, add_str, add_tup, add_lst, mul_int, mul_lst, idx_tup, idx_lst, idx_scr, idx_str, len_tup, len_lst, len_scr, len_str, sl_tup, sl_lst, neg_int, str_int, str_str, int_int, int_bl, is_non, is_int, is_str, is_tup, is_lst, is_bl, is_bb, eq_int, eq_str, eq_bl, ne_int, ne_str, ne_bl, eq_nilL, ty_non, ty_bl, ty_int, ty_str, ty_tup, ty_lst, ty_scr, ty_dk, Ty.sub, tr_bl, tr_non, tr_int, tr_str, sv_lst, sv_tup, sv_scr, lv_lst, at0, at1, at2, cut1, len0, ss_nil, for_nil, for_cons, pairs_cons, pairs_nil, pairs_nil', walk_lst, walk_scr, walk_tup, walk_str, walk_ref, List.getElem?_cons_zero, List.getElem?_cons_succ, List.length_cons, List.length_nil, List.append_nil, List.cons_append, List.nil_append, Option.some.injEq, W.int.injEq, W.str.injEq, W.bl.injEq, W.tup.injEq, W.lst.injEq, W.ref.injEq, List.cons.injEq, Option.map_some, exists_and_left, exists_and_right, exists_eq_left, exists_eq_left', exists_eq, exists_eq', exists_eq_right, exists_eq_right', and_true, true_and, and_assoc, reduceIte, reduceCtorEq, decide_true, decide_false, decide_eq_true_eq, decide_eq_false_iff_not, Bool.not_eq_true', Bool.not_eq_false', Bool.true_eq_false, Bool.false_eq_true, if_true, if_false, Bool.not_true, Bool.not_false, ite_true, ite_false, Int.cast_ofNat_Int, Int.reduceAdd, Int.reduceSub, Int.reduceEq, Int.reduceLT, Int.reduceLE, Int.natCast_add, Nat.reduceEqDiff, Nat.reduceAdd, Nat.add_zero, Nat.zero_add, Nat.succ_ne_zero, not_true_eq_false, not_false_eq_true, Option.getD_some, Option.getD_none, hm]
      refine use_next m hs5 rfl m1 (by omega) fun r5 M6 hr5 hs6 fr6 => ?_
      simp only [dX, dXs, dXo, dXi, dSc, d2, d1, dN, dVar, dC, dTup, dLst, dTru, dB, dChain, dIte, dNotV, dNotT, dJoinV, dJoinT, dNil, dCons, dCall, dBM, dIsi, dIsi2, dAttr, dMeth, dNew, dDget, dDin, dDnew, dKidx, dKin, dKget, dDisp, dFrz, dSlice, dNoPart, dPart, dAsg, dExpr, dRet, dIf, dFld, dSet, dDput, dNever, dFor, dNext, binP, cmpP, iSeqD, iRg1, iRg2, iZip, iEnumD, Tg.asg, setAll, List.set, List.map_cons, List.map_nil, subW, modW, fdivW, powW, ltW, leW, gtW, geW, newL, finD, frzO, tupW, listW, oneW, twoW, BI.w, ints_eq, add_int, add_str, add_tup, add_lst, mul_int, mul_lst, idx_tup, idx_lst, idx_scr, idx_str, len_tup, len_lst, len_scr, len_str, sl_tup, sl_lst, neg_int, str_int, str_str, int_int, int_bl, is_non, is_int, is_str, is_tup, is_lst, is_bl, is_bb, eq_int, eq_str, eq_bl, ne_int, ne_str, ne_bl, eq_nilL, ty_non, ty_bl, ty_int, ty_str, ty_tup, ty_lst, ty_scr, ty_dk, Ty.sub, tr_bl, tr_non, tr_int, tr_str, sv_lst, sv_tup, sv_scr, lv_lst, at0, at1, at2, cut1, len0, ss_nil, for_nil, for_cons, pairs_cons, pairs_nil, pairs_nil', walk_lst, walk_scr, walk_tup, walk_str, walk_ref, List.getElem?_cons_zero, List.getElem?_cons_succ, List.length_cons, List.length_nil, List.append_nil, List.cons_append, List.nil_append, Option.some.injEq, W.int.injEq, W.str.injEq, W.bl.injEq, W.tup.injEq, W.lst.injEq, W.ref.injEq, List.cons.injEq, Option.map_some, exists_and_left, exists_and_right, exists_eq_left, exists_eq_left', exists_eq, exists_eq', exists_eq_right, exists_eq_right', and_true, true_and, and_assoc, reduceIte, reduceCtorEq, decide_true, decide_false, decide_eq_true_eq, decide_eq_false_iff_not, Bool.not_eq_true', Bool.not_eq_false', Bool.true_eq_false, Bool.false_eq_true, if_true, if_false, Bool.not_true, Bool.not_false, ite_true, ite_false, Int.cast_ofNat_Int, Int.reduceAdd, Int.reduceSub, Int.reduceEq, Int.reduceLT, Int.reduceLE, Int.natCast_add, Nat.reduceEqDiff, Nat.reduceAdd, Nat.add_zero, Nat.zero_add, Nat.succ_ne_zero, not_true_eq_false, not_false_eq_true, Option.getD_some, Option.getD_none]
      have hf6 := fr6 L _ (fr5 L _ hf4 nL1 nL2) nL1 nL2
      refine ⟨by decide, _, hf6, by rw [List.length_map]; exact Nat.lt_of_lt_of_le (by omega : fs.length < 9) (by decide), hK _ _ ⟨⟨_, _, _, _, rfl⟩, hs6.up nL1 nL2, fun b o hb h1 h2 => ?_, fs ++ [(1 + r5, b)], ?_, by rw [List.length_append, hlen]; rfl, fun f hf => ?_⟩⟩
      · rw [mup_off (fun z => by rw [z, hL] at hb; cases hb)]
        exact fr6 b o (fr5 b o (fr4 b o (fr3 b o hb h1 h2) h1 h2) h1 h2) h1 h2
      · rw [mup_at, List.map_append]
        simp only [List.map_cons, List.map_nil, encF, Int.natCast_add, Int.cast_ofNat_Int]
      · rcases List.mem_append.mp hf with z | z
        · exact hok f z
        · rw [List.mem_singleton.mp z]
          exact ⟨by show 1 ≤ 1 + r5; omega, by show 1 + r5 ≤ 8; omega, ob, hb, cb⟩
    have tail : ∀ (b : Bd) (y : Option W) M4, b.ok kinds.length → b.ht ≤ 6 → Hs a s M4 → Fr a s M' M4 →
        dSs Γ c_l_program_8 { nx := K, rt := Q, bk := dSs Γ c_l_program_4 { nx := fun x M' => Q W.non M', rt := Q, ex := Ex }, ct := K, ex := Ex }
          [some (W.ref a), some (W.int most), some (W.lst (kinds.map kW)), some (W.lst ((plainOf kinds).map fun f : Nat => W.int f)), some (W.ref L), some (kW kd), some ev.enc, some b.enc, y] M4 := by
      intro b y M4 ob hb hs4 fr4
      simp only [st_l_program_8, dX, dXs, dXo, dXi, dSc, d2, d1, dN, dVar, dC, dTup, dLst, dTru, dB, dChain, dIte, dNotV, dNotT, dJoinV, dJoinT, dNil, dCons, dCall, dBM, dIsi, dIsi2, dAttr, dMeth, dNew, dDget, dDin, dDnew, dKidx, dKin, dKget, dDisp, dFrz, dSlice, dNoPart, dPart, dAsg, dExpr, dRet, dIf, dFld, dSet, dDput, dNever, dFor, dNext, binP, cmpP, iSeqD, iRg1, iRg2, iZip, iEnumD, Tg.asg, setAll, List.set, List.map_cons, List.map_nil, subW, modW, fdivW, powW, ltW, leW, gtW, geW, newL, finD, frzO, tupW, listW, oneW, twoW, BI.w, ints_eq, add_int, add_str, add_tup, add_lst, mul_int, mul_lst, idx_tup, idx_lst, idx_scr, idx_str, len_tup, len_lst, len_scr, len_str, sl_tup, sl_lst, neg_int, str_int, str_str, int_int, int_bl, is_non, is_int, is_str, is_tup, is_lst, is_bl, is_bb, eq_int, eq_str, eq_bl, ne_int, ne_str, ne_bl, eq_nilL, ty_non, ty_bl, ty_int, ty_str, ty_tup, ty_lst, ty_scr, ty_dk, Ty.sub, tr_bl, tr_non, tr_int, tr_str, sv_lst, sv_tup, sv_scr, lv_lst, at0, at1, at2, cut1, len0, ss_nil, for_nil, for_cons, pairs_cons, pairs_nil, pairs_nil', walk_lst, walk_scr, walk_tup, walk_str, walk_ref, List.getElem?_cons_zero, List.getElem?_cons_succ, List.length_cons, List.length_nil, List.append_nil, List.cons_append, List.nil_append, Option.some.injEq, W.int.injEq, W.str.injEq, W.bl.injEq, W.tup.injEq, W.lst.injEq, W.ref.injEq, List.cons.injEq, Option.map_some, exists_and_left, exists_and_right, exists_eq_left, exists_eq_left', exists_eq, exists_eq', exists_eq_right, exists_eq_right', and_true, true_and, and_assoc, reduceIte, reduceCtorEq, decide_true, decide_false, decide_eq_true_eq, decide_eq_false_iff_not, Bool.not_eq_true', Bool.not_eq_false', Bool.true_eq_false, Bool.false_eq_true, if_true, if_false, Bool.not_true, Bool.not_false, ite_true, ite_false, Int.cast_ofNat_Int, Int.reduceAdd, Int.reduceSub, Int.reduceEq, Int.reduceLT, Int.reduceLE, Int.natCast_add, Nat.reduceEqDiff, Nat.reduceAdd, Nat.add_zero, Nat.zero_add, Nat.succ_ne_zero, not_true_eq_false, not_false_eq_true, Option.getD_some, Option.getD_none, f_l_body_v1, f_l_words, f_l_leaf_v1, f_l_next, dn]
      refine ⟨b, rfl, by omega, ?_⟩
      simp only [dX, dXs, dXo, dXi, dSc, d2, d1, dN, dVar, dC, dTup, dLst, dTru, dB, dChain, dIte, dNotV, dNotT, dJoinV, dJoinT, dNil, dCons, dCall, dBM, dIsi, dIsi2, dAttr, dMeth, dNew, dDget, dDin, dDnew, dKidx, dKin, dKget, dDisp, dFrz, dSlice, dNoPart, dPart, dAsg, dExpr, dRet, dIf, dFld, dSet, dDput, dNever, dFor, dNext, binP, cmpP, iSeqD, iRg1, iRg2, iZip, iEnumD, Tg.asg, setAll, List.set, List.map_cons, List.map_nil, subW, modW, fdivW, powW, ltW, leW, gtW, geW, newL, finD, frzO, tupW, listW, oneW, twoW, BI.w, ints_eq, add_int, add_str, add_tup, add_lst, mul_int, mul_lst, idx_tup, idx_lst, idx_scr, idx_str, len_tup, len_lst, len_scr, len_str, sl_tup, sl_lst, neg_int, str_int, str_str, int_int, int_bl, is_non, is_int, is_str, is_tup, is_lst, is_bl, is_bb, eq_int, eq_str, eq_bl, ne_int, ne_str, ne_bl, eq_nilL, ty_non, ty_bl, ty_int, ty_str, ty_tup, ty_lst, ty_scr, ty_dk, Ty.sub, tr_bl, tr_non, tr_int, tr_str, sv_lst, sv_tup, sv_scr, lv_lst, at0, at1, at2, cut1, len0, ss_nil, for_nil, for_cons, pairs_cons, pairs_nil, pairs_nil', walk_lst, walk_scr, walk_tup, walk_str, walk_ref, List.getElem?_cons_zero, List.getElem?_cons_succ, List.length_cons, List.length_nil, List.append_nil, List.cons_append, List.nil_append, Option.some.injEq, W.int.injEq, W.str.injEq, W.bl.injEq, W.tup.injEq, W.lst.injEq, W.ref.injEq, List.cons.injEq, Option.map_some, exists_and_left, exists_and_right, exists_eq_left, exists_eq_left', exists_eq, exists_eq', exists_eq_right, exists_eq_right', and_true, true_and, and_assoc, reduceIte, reduceCtorEq, decide_true, decide_false, decide_eq_true_eq, decide_eq_false_iff_not, Bool.not_eq_true', Bool.not_eq_false', Bool.true_eq_false, Bool.false_eq_true, if_true, if_false, Bool.not_true, Bool.not_false, ite_true, ite_false, Int.cast_ofNat_Int, Int.reduceAdd, Int.reduceSub, Int.reduceEq, Int.reduceLT, Int.reduceLE, Int.natCast_add, Nat.reduceEqDiff, Nat.reduceAdd, Nat.add_zero, Nat.zero_add, Nat.succ_ne_zero, not_true_eq_false, not_false_eq_true, Option.getD_some, Option.getD_none]
      by_cases hc : (40 : Int) < b.cnt
      · simp only [hc, if_true, st_l_program_11, dX, dXs, dXo, dXi, dSc, d2, d1, dN, dVar, dC, dTup, dLst, dTru, dB, dChain, dIte, dNotV, dNotT, dJoinV, dJoinT, dNil, dCons, dCall, dBM, dIsi, dIsi2, dAttr, dMeth, dNew, dDget, dDin, dDnew, dKidx, dKin, dKget, dDisp, dFrz, dSlice, dNoPart, dPart, dAsg, dExpr, dRet, dIf, dFld, dSet, dDput, dNever, dFor, dNext, binP, cmpP, iSeqD, iRg1, iRg2, iZip, iEnumD, Tg.asg, setAll, List.set, List.map_cons, List.map_nil, subW, modW, fdivW, powW, ltW, leW, gtW, geW, newL, finD, frzO, tupW, listW, oneW, twoW, BI.w, ints_eq, add_int, add_str, add_tup, add_lst, mul_int, mul_lst, idx_tup, idx_lst, idx_scr, idx_str, len_tup, len_lst, len_scr, len_str, sl_tup, sl_lst, neg_int, str_int, str_str, int_int, int_bl, is_non, is_int, is_str, is_tup, is_lst, is_bl, is_bb, eq_int, eq_str, eq_bl, ne_int, ne_str, ne_bl, eq_nilL, ty_non, ty_bl, ty_int, ty_str, ty_tup, ty_lst, ty_scr, ty_dk, Ty.sub, tr_bl, tr_non, tr_int, tr_str, sv_lst, sv_tup, sv_scr, lv_lst, at0, at1, at2, cut1, len0, ss_nil, for_nil, for_cons, pairs_cons, pairs_nil, pairs_nil', walk_lst, walk_scr, walk_tup, walk_str, walk_ref, List.getElem?_cons_zero, List.getElem?_cons_succ, List.length_cons, List.length_nil, List.append_nil, List.cons_append, List.nil_append, Option.some.injEq, W.int.injEq, W.str.injEq, W.bl.injEq, W.tup.injEq, W.lst.injEq, W.ref.injEq, List.cons.injEq, Option.map_some, exists_and_left, exists_and_right, exists_eq_left, exists_eq_left', exists_eq, exists_eq', exists_eq_right, exists_eq_right', and_true, true_and, and_assoc, reduceIte, reduceCtorEq, decide_true, decide_false, decide_eq_true_eq, decide_eq_false_iff_not, Bool.not_eq_true', Bool.not_eq_false', Bool.true_eq_false, Bool.false_eq_true, if_true, if_false, Bool.not_true, Bool.not_false, ite_true, ite_false, Int.cast_ofNat_Int, Int.reduceAdd, Int.reduceSub, Int.reduceEq, Int.reduceLT, Int.reduceLE, Int.natCast_add, Nat.reduceEqDiff, Nat.reduceAdd, Nat.add_zero, Nat.zero_add, Nat.succ_ne_zero, not_true_eq_false, not_false_eq_true, Option.getD_some, Option.getD_none, f_l_body_v1, f_l_words, f_l_leaf_v1, f_l_next, dn]
        refine use_leaf (Ex := Ex) true rfl hs4 evok (by omega) fun w M5 hw hs5 fr5 => ?_
        obtain ⟨b', rfl, o1, g1, c1⟩ := hw
        rw [hkl] at o1
        exact fin b' _ M5 o1 (by omega) (by omega) hs5 (fr4.trans fr5)
      · simp only [hc, if_false]
        exact fin b _ M4 ob hb (by omega) hs4 fr4
    simp only [st_l_program_6, dX, dXs, dXo, dXi, dSc, d2, d1, dN, dVar, dC, dTup, dLst, dTru, dB, dChain, dIte, dNotV, dNotT, dJoinV, dJoinT, dNil, dCons, dCall, dBM, dIsi, dIsi2, dAttr, dMeth, dNew, dDget, dDin, dDnew, dKidx, dKin, dKget, dDisp, dFrz, dSlice, dNoPart, dPart, dAsg, dExpr, dRet, dIf, dFld, dSet, dDput, dNever, dFor, dNext, binP, cmpP, iSeqD, iRg1, iRg2, iZip, iEnumD, Tg.asg, setAll, List.set, List.map_cons, List.map_nil, subW, modW, fdivW, powW, ltW, leW, gtW, geW, newL, finD, frzO, tupW, listW, oneW, twoW, BI.w, ints_eq, add_int, add_str, add_tup, add_lst, mul_int, mul_lst, idx_tup, idx_lst, idx_scr, idx_str, len_tup, len_lst, len_scr, len_str, sl_tup, sl_lst, neg_int, str_int, str_str, int_int, int_bl, is_non, is_int, is_str, is_tup, is_lst, is_bl, is_bb, eq_int, eq_str, eq_bl, ne_int, ne_str, ne_bl, eq_nilL, ty_non, ty_bl, ty_int, ty_str, ty_tup, ty_lst, ty_scr, ty_dk, Ty.sub, tr_bl, tr_non, tr_int, tr_str, sv_lst, sv_tup, sv_scr, lv_lst, at0, at1, at2, cut1, len0, ss_nil, for_nil, for_cons, pairs_cons, pairs_nil, pairs_nil', walk_lst, walk_scr, walk_tup, walk_str, walk_ref, List.getElem?_cons_zero, List.getElem?_cons_succ, List.length_cons, List.length_nil, List.append_nil, List.cons_append, List.nil_append, Option.some.injEq, W.int.injEq, W.str.injEq, W.bl.injEq, W.tup.injEq, W.lst.injEq, W.ref.injEq, List.cons.injEq, Option.map_some, exists_and_left, exists_and_right, exists_eq_left, exists_eq_left', exists_eq, exists_eq', exists_eq_right, exists_eq_right', and_true, true_and, and_assoc, reduceIte, reduceCtorEq, decide_true, decide_false, decide_eq_true_eq, decide_eq_false_iff_not, Bool.not_eq_true', Bool.not_eq_false', Bool.true_eq_false, Bool.false_eq_true, if_true, if_false, Bool.not_true, Bool.not_false, ite_true, ite_false, Int.cast_ofNat_Int, Int.reduceAdd, Int.reduceSub, Int.reduceEq, Int.reduceLT, Int.reduceLE, Int.natCast_add, Nat.reduceEqDiff, Nat.reduceAdd, Nat.add_zero, Nat.zero_add, Nat.succ_ne_zero, not_true_eq_false, not_false_eq_true, Option.getD_some, Option.getD_none, f_l_body_v1, f_l_words, f_l_leaf_v1, f_l_next, dn]
    refine ⟨by decide, use_next 4 hs3 rfl (by decide) (by decide) fun r6 M4 hr6 hs4 fr4 => ?_⟩
    obtain ⟨kb, hkb⟩ := nnnw_pick hr6
    simp only [dX, dXs, dXo, dXi, dSc, d2, d1, dN, dVar, dC, dTup, dLst, dTru, dB, dChain, dIte, dNotV, dNotT, dJoinV, dJoinT, dNil, dCons, dCall, dBM, dIsi, dIsi2, dAttr, dMeth, dNew, dDget, dDin, dDnew, dKidx, dKin, dKget, dDisp, dFrz, dSlice, dNoPart, dPart, dAsg, dExpr, dRet, dIf, dFld, dSet, dDput, dNever, dFor, dNext, binP, cmpP, iSeqD, iRg1, iRg2, iZip, iEnumD, Tg.asg, setAll, List.set, List.map_cons, List.map_nil, subW, modW, fdivW, powW, ltW, leW, gtW, geW, newL, finD, frzO, tupW, listW, oneW, twoW, BI.w, ints_eq, add_int, add_str, add_tup, add_lst, mul_int, mul_lst, idx_tup, idx_lst, idx_scr, idx_str, len_tup, len_lst, len_scr, len_str, sl_tup, sl_lst, neg_int, str_int, str_str, int_int, int_bl, is_non, is_int, is_str, is_tup, is_lst, is_bl, is_bb, eq_int, eq_str, eq_bl, ne_int, ne_str, ne_bl, eq_nilL, ty_non, ty_bl, ty_int, ty_str, ty_tup, ty_lst, ty_scr, ty_dk, Ty.sub, tr_bl, tr_non, tr_int, tr_str, sv_lst, sv_tup, sv_scr, lv_lst, at0, at1, at2, cut1, len0, ss_nil, for_nil, for_cons, pairs_cons, pairs_nil, pairs_nil', walk_lst, walk_scr, walk_tup, walk_str, walk_ref, List.getElem?_cons_zero, List.getElem?_cons_succ, List.length_cons, List.length_nil, List.append_nil, List.cons_append, List.nil_append, Option.some.injEq, W.int.injEq, W.str.injEq, W.bl.injEq, W.tup.injEq, W.lst.injEq, W.ref.injEq, List.cons.injEq, Option.map_some, exists_and_left, exists_and_right, exists_eq_left, exists_eq_left', exists_eq, exists_eq', exists_eq_right, exists_eq_right', and_true, true_and, and_assoc, reduceIte, reduceCtorEq, decide_true, decide_false, decide_eq_true_eq, decide_eq_false_iff_not, Bool.not_eq_true', Bool.not_eq_false', Bool.true_eq_false, Bool.false_eq_true, if_true, if_false, Bool.not_true, Bool.not_false, ite_true, ite_false, Int.cast_ofNat_Int, Int.reduceAdd, Int.reduceSub, Int.reduceEq, Int.reduceLT, Int.reduceLE, Int.natCast_add, Nat.reduceEqDiff, Nat.reduceAdd, Nat.add_zero, Nat.zero_add, Nat.succ_ne_zero, not_true_eq_false, not_false_eq_true, Option.getD_some, Option.getD_none, hkb]
    refine use_next 3 hs4 rfl (by decide) (by decide) fun r7 M5 hr7 hs5 fr5 => ?_
    simp only [dX, dXs, dXo, dXi, dSc, d2, d1, dN, dVar, dC, dTup, dLst, dTru, dB, dChain, dIte, dNotV, dNotT, dJoinV, dJoinT, dNil, dCons, dCall, dBM, dIsi, dIsi2, dAttr, dMeth, dNew, dDget, dDin, dDnew, dKidx, dKin, dKget, dDisp, dFrz, dSlice, dNoPart, dPart, dAsg, dExpr, dRet, dIf, dFld, dSet, dDput, dNever, dFor, dNext, binP, cmpP, iSeqD, iRg1, iRg2, iZip, iEnumD, Tg.asg, setAll, List.set, List.map_cons, List.map_nil, subW, modW, fdivW, powW, ltW, leW, gtW, geW, newL, finD, frzO, tupW, listW, oneW, twoW, BI.w, ints_eq, add_int, add_str, add_tup, add_lst, mul_int, mul_lst, idx_tup, idx_lst, idx_scr, idx_str, len_tup, len_lst, len_scr, len_str, sl_tup, sl_lst, neg_int, str_int, str_str, int_int, int_bl, is_non, is_int, is_str, is_tup, is_lst, is_bl, is_bb, eq_int, eq_str, eq_bl, ne_int, ne_str, ne_bl, eq_nilL, ty_non, ty_bl, ty_int, ty_str, ty_tup, ty_lst, ty_scr, ty_dk, Ty.sub, tr_bl, tr_non, tr_int, tr_str, sv_lst, sv_tup, sv_scr, lv_lst, at0, at1, at2, cut1, len0, ss_nil, for_nil, for_cons, pairs_cons, pairs_nil, pairs_nil', walk_lst, walk_scr, walk_tup, walk_str, walk_ref, List.getElem?_cons_zero, List.getElem?_cons_succ, List.length_cons, List.length_nil, List.append_nil, List.cons_append, List.nil_append, Option.some.injEq, W.int.injEq, W.str.injEq, W.bl.injEq, W.tup.injEq, W.lst.injEq, W.ref.injEq, List.cons.injEq, Option.map_some, exists_and_left, exists_and_right, exists_eq_left, exists_eq_left', exists_eq, exists_eq', exists_eq_right, exists_eq_right', and_true, true_and, and_assoc, reduceIte, reduceCtorEq, decide_true, decide_false, decide_eq_true_eq, decide_eq_false_iff_not, Bool.not_eq_true', Bool.not_eq_false', Bool.true_eq_false, Bool.false_eq_true, if_true, if_false, Bool.not_true, Bool.not_false, ite_true, ite_false, Int.cast_ofNat_Int, Int.reduceAdd, Int.reduceSub, Int.reduceEq, Int.reduceLT, Int.reduceLE, Int.natCast_add, Nat.reduceEqDiff, Nat.reduceAdd, Nat.add_zero, Nat.zero_add, Nat.succ_ne_zero, not_true_eq_false, not_false_eq_true, Option.getD_some, Option.getD_none]
    have e2 : (2 + (r7 : Int)) = ((2 + r7 : Nat) : Int) := by omega
    rw [e2]
    refine use_body (Ex := Ex) kb rfl hs5 evok (by omega) fun w M6 hw hs6 fr6 => ?_
    obtain ⟨b, rfl, ob, hb⟩ := hw
    rw [hkl] at ob
    have fr46 := (fr4.trans fr5).trans fr6
    simp only [st_l_program_7, dX, dXs, dXo, dXi, dSc, d2, d1, dN, dVar, dC, dTup, dLst, dTru, dB, dChain, dIte, dNotV, dNotT, dJoinV, dJoinT, dNil, dCons, dCall, dBM, dIsi, dIsi2, dAttr, dMeth, dNew, dDget, dDin, dDnew, dKidx, dKin, dKget, dDisp, dFrz, dSlice, dNoPart, dPart, dAsg, dExpr, dRet, dIf, dFld, dSet, dDput, dNever, dFor, dNext, binP, cmpP, iSeqD, iRg1, iRg2, iZip, iEnumD, Tg.asg, setAll, List.set, List.map_cons, List.map_nil, subW, modW, fdivW, powW, ltW, leW, gtW, geW, newL, finD, frzO, tupW, listW, oneW, twoW, BI.w, ints_eq, add_int, add_str, add_tup, add_lst, mul_int, mul_lst, idx_tup, idx_lst, idx_scr, idx_str, len_tup, len_lst, len_scr, len_str, sl_tup, sl_lst, neg_int, str_int, str_str, int_int, int_bl, is_non, is_int, is_str, is_tup, is_lst, is_bl, is_bb, eq_int, eq_str, eq_bl, ne_int, ne_str, ne_bl, eq_nilL, ty_non, ty_bl, ty_int, ty_str, ty_tup, ty_lst, ty_scr, ty_dk, Ty.sub, tr_bl, tr_non, tr_int, tr_str, sv_lst, sv_tup, sv_scr, lv_lst, at0, at1, at2, cut1, len0, ss_nil, for_nil, for_cons, pairs_cons, pairs_nil, pairs_nil', walk_lst, walk_scr, walk_tup, walk_str, walk_ref, List.getElem?_cons_zero, List.getElem?_cons_succ, List.length_cons, List.length_nil, List.append_nil, List.cons_append, List.nil_append, Option.some.injEq, W.int.injEq, W.str.injEq, W.bl.injEq, W.tup.injEq, W.lst.injEq, W.ref.injEq, List.cons.injEq, Option.map_some, exists_and_left, exists_and_right, exists_eq_left, exists_eq_left', exists_eq, exists_eq', exists_eq_right, exists_eq_right', and_true, true_and, and_assoc, reduceIte, reduceCtorEq, decide_true, decide_false, decide_eq_true_eq, decide_eq_false_iff_not, Bool.not_eq_true', Bool.not_eq_false', Bool.true_eq_false, Bool.false_eq_true, if_true, if_false, Bool.not_true, Bool.not_false, ite_true, ite_false, Int.cast_ofNat_Int, Int.reduceAdd, Int.reduceSub, Int.reduceEq, Int.reduceLT, Int.reduceLE, Int.natCast_add, Nat.reduceEqDiff, Nat.reduceAdd, Nat.add_zero, Nat.zero_add, Nat.succ_ne_zero, not_true_eq_false, not_false_eq_true, Option.getD_some, Option.getD_none, kW_number, f_l_body_v1, f_l_words, f_l_leaf_v1, f_l_next, dn]
    by_cases hkd : kd = true
    · simp only [hkd, if_true]
      refine use_next 4 hs6 rfl (by decide) (by decide) fun r8 M7 hr8 hs7 fr7 => ?_
      simp only [dX, dXs, dXo, dXi, dSc, d2, d1, dN, dVar, dC, dTup, dLst, dTru, dB, dChain, dIte, dNotV, dNotT, dJoinV, dJoinT, dNil, dCons, dCall, dBM, dIsi, dIsi2, dAttr, dMeth, dNew, dDget, dDin, dDnew, dKidx, dKin, dKget, dDisp, dFrz, dSlice, dNoPart, dPart, dAsg, dExpr, dRet, dIf, dFld, dSet, dDput, dNever, dFor, dNext, binP, cmpP, iSeqD, iRg1, iRg2, iZip, iEnumD, Tg.asg, setAll, List.set, List.map_cons, List.map_nil, subW, modW, fdivW, powW, ltW, leW, gtW, geW, newL, finD, frzO, tupW, listW, oneW, twoW, BI.w, ints_eq, add_int, add_str, add_tup, add_lst, mul_int, mul_lst, idx_tup, idx_lst, idx_scr, idx_str, len_tup, len_lst, len_scr, len_str, sl_tup, sl_lst, neg_int, str_int, str_str, int_int, int_bl, is_non, is_int, is_str, is_tup, is_lst, is_bl, is_bb, eq_int, eq_str, eq_bl, ne_int, ne_str, ne_bl, eq_nilL, ty_non, ty_bl, ty_int, ty_str, ty_tup, ty_lst, ty_scr, ty_dk, Ty.sub, tr_bl, tr_non, tr_int, tr_str, sv_lst, sv_tup, sv_scr, lv_lst, at0, at1, at2, cut1, len0, ss_nil, for_nil, for_cons, pairs_cons, pairs_nil, pairs_nil', walk_lst, walk_scr, walk_tup, walk_str, walk_ref, List.getElem?_cons_zero, List.getElem?_cons_succ, List.length_cons, List.length_nil, List.append_nil, List.cons_append, List.nil_append, Option.some.injEq, W.int.injEq, W.str.injEq, W.bl.injEq, W.tup.injEq, W.lst.injEq, W.ref.injEq, List.cons.injEq, Option.map_some, exists_and_left, exists_and_right, exists_eq_left, exists_eq_left', exists_eq, exists_eq', exists_eq_right, exists_eq_right', and_true, true_and, and_assoc, reduceIte, reduceCtorEq, decide_true, decide_false, decide_eq_true_eq, decide_eq_false_iff_not, Bool.not_eq_true', Bool.not_eq_false', Bool.true_eq_false, Bool.false_eq_true, if_true, if_false, Bool.not_true, Bool.not_false, ite_true, ite_false, Int.cast_ofNat_Int, Int.reduceAdd, Int.reduceSub, Int.reduceEq, Int.reduceLT, Int.reduceLE, Int.natCast_add, Nat.reduceEqDiff, Nat.reduceAdd, Nat.add_zero, Nat.zero_add, Nat.succ_ne_zero, not_true_eq_false, not_false_eq_true, Option.getD_some, Option.getD_none]
      rw [hkd] at tail
      by_cases h0 : (0 : Int) < (r8 : Int)
      · simp only [h0, if_true, st_l_program_10, dX, dXs, dXo, dXi, dSc, d2, d1, dN, dVar, dC, dTup, dLst, dTru, dB, dChain, dIte, dNotV, dNotT, dJoinV, dJoinT, dNil, dCons, dCall, dBM, dIsi, dIsi2, dAttr, dMeth, dNew, dDget, dDin, dDnew, dKidx, dKin, dKget, dDisp, dFrz, dSlice, dNoPart, dPart, dAsg, dExpr, dRet, dIf, dFld, dSet, dDput, dNever, dFor, dNext, binP, cmpP, iSeqD, iRg1, iRg2, iZip, iEnumD, Tg.asg, setAll, List.set, List.map_cons, List.map_nil, subW, modW, fdivW, powW, ltW, leW, gtW, geW, newL, finD, frzO, tupW, listW, oneW, twoW, BI.w, ints_eq, add_int, add_str, add_tup, add_lst, mul_int, mul_lst, idx_tup, idx_lst, idx_scr, idx_str, len_tup, len_lst, len_scr, len_str, sl_tup, sl_lst, neg_int, str_int, str_str, int_int, int_bl, is_non, is_int, is_str, is_tup, is_lst, is_bl, is_bb, eq_int, eq_str, eq_bl, ne_int, ne_str, ne_bl, eq_nilL, ty_non, ty_bl, ty_int, ty_str, ty_tup, ty_lst, ty_scr, ty_dk, Ty.sub, tr_bl, tr_non, tr_int, tr_str, sv_lst, sv_tup, sv_scr, lv_lst, at0, at1, at2, cut1, len0, ss_nil, for_nil, for_cons, pairs_cons, pairs_nil, pairs_nil', walk_lst, walk_scr, walk_tup, walk_str, walk_ref, List.getElem?_cons_zero, List.getElem?_cons_succ, List.length_cons, List.length_nil, List.append_nil, List.cons_append, List.nil_append, Option.some.injEq, W.int.injEq, W.str.injEq, W.bl.injEq, W.tup.injEq, W.lst.injEq, W.ref.injEq, List.cons.injEq, Option.map_some, exists_and_left, exists_and_right, exists_eq_left, exists_eq_left', exists_eq, exists_eq', exists_eq_right, exists_eq_right', and_true, true_and, and_assoc, reduceIte, reduceCtorEq, decide_true, decide_false, decide_eq_true_eq, decide_eq_false_iff_not, Bool.not_eq_true', Bool.not_eq_false', Bool.true_eq_false, Bool.false_eq_true, if_true, if_false, Bool.not_true, Bool.not_false, ite_true, ite_false, Int.cast_ofNat_Int, Int.reduceAdd, Int.reduceSub, Int.reduceEq, Int.reduceLT, Int.reduceLE, Int.natCast_add, Nat.reduceEqDiff, Nat.reduceAdd, Nat.add_zero, Nat.zero_add, Nat.succ_ne_zero, not_true_eq_false, not_false_eq_true, Option.getD_some, Option.getD_none, f_l_body_v1, f_l_words, f_l_leaf_v1, f_l_next, dn]
        refine ⟨by decide, use_leaf (Ex := Ex) true rfl hs7 evok (by omega) fun w M8 hw hs8 fr8 => ?_⟩
        obtain ⟨b', rfl, o1, g1, c1⟩ := hw
        rw [hkl] at o1
        exact ⟨by decide, tail (.iff .arg b b') _ M8 ⟨trivial, ob, o1⟩ (by simp only [Bd.ht]; omega) hs8 ((fr46.trans fr7).trans fr8)⟩
      · simp only [h0, if_false]
        exact tail b _ M7 ob (by omega) hs7 (fr46.trans fr7)
    · have hkf : kd = false := by simpa using hkd
      rw [hkf] at tail
      simp only [hkf, Bool.false_eq_true, if_false]
      exact tail b _ M6 ob (by omega) hs6 fr46
  · obtain ⟨⟨x5, x6, x7, x8, rfl⟩, hs3, fr3, fs, hfs, hlen, hok⟩ := h
    rw [Nat.zero_add, List.length_map] at hlen
    simp only [st_l_program_4, tupW, dX, dXs, dXo, dXi, dSc, d2, d1, dN, dVar, dC, dTup, dLst, dTru, dB, dChain, dIte, dNotV, dNotT, dJoinV, dJoinT, dNil, dCons, dCall, dBM, dIsi, dIsi2, dAttr, dMeth, dNew, dDget, dDin, dDnew, dKidx, dKin, dKget, dDisp, dFrz, dSlice, dNoPart, dPart, dAsg, dExpr, dRet, dIf, dFld, dSet, dDput, dNever, dFor, dNext, binP, cmpP, iSeqD, iRg1, iRg2, iZip, iEnumD, Tg.asg, setAll, List.set, List.map_cons, List.map_nil, subW, modW, fdivW, powW, ltW, leW, gtW, geW, newL, finD, frzO, tupW, listW, oneW, twoW, BI.w, ints_eq, add_int, add_str, add_tup, add_lst, mul_int, mul_lst, idx_tup, idx_lst, idx_scr, idx_str, len_tup, len_lst, len_scr, len_str, sl_tup, sl_lst, neg_int, str_int, str_str, int_int, int_bl, is_non, is_int, is_str, is_tup, is_lst, is_bl, is_bb, eq_int, eq_str, eq_bl, ne_int, ne_str, ne_bl, eq_nilL, ty_non, ty_bl, ty_int, ty_str, ty_tup, ty_lst, ty_scr, ty_dk, Ty.sub, tr_bl, tr_non, tr_int, tr_str, sv_lst, sv_tup, sv_scr, lv_lst, at0, at1, at2, cut1, len0, ss_nil, for_nil, for_cons, pairs_cons, pairs_nil, pairs_nil', walk_lst, walk_scr, walk_tup, walk_str, walk_ref, List.getElem?_cons_zero, List.getElem?_cons_succ, List.length_cons, List.length_nil, List.append_nil, List.cons_append, List.nil_append, Option.some.injEq, W.int.injEq, W.str.injEq, W.bl.injEq, W.tup.injEq, W.lst.injEq, W.ref.injEq, List.cons.injEq, Option.map_some, exists_and_left, exists_and_right, exists_eq_left, exists_eq_left', exists_eq, exists_eq', exists_eq_right, exists_eq_right', and_true, true_and, and_assoc, reduceIte, reduceCtorEq, decide_true, decide_false, decide_eq_true_eq, decide_eq_false_iff_not, Bool.not_eq_true', Bool.not_eq_false', Bool.true_eq_false, Bool.false_eq_true, if_true, if_false, Bool.not_true, Bool.not_false, ite_true, ite_false, Int.cast_ofNat_Int, Int.reduceAdd, Int.reduceSub, Int.reduceEq, Int.reduceLT, Int.reduceLE, Int.natCast_add, Nat.reduceEqDiff, Nat.reduceAdd, Nat.add_zero, Nat.zero_add, Nat.succ_ne_zero, not_true_eq_false, not_false_eq_true, Option.getD_some, Option.getD_none, sv_ref hfs]
    exact q fs M' ⟨by omega, by omega, by rw [hlen]; exact hok⟩ (by omega) hs3 (hf0.trans fr3)
end WL
namespace WL
open PySem L2
def c_written_words_3 : Ss := .cons (.expr (.bm false .extend (.var 1) (.cons (.ite (.cmp .Eq (.var 3) (.lit (.str "x"))) (.call 30 (.cons (.var 2) .nil)) (.lst false (.cons (.blt false .str (.cons (.var 2) .nil)) .nil))) .nil))) .nil
theorem st_written_words_3 {Γ : Gam} {D : Dw} {σ : Sw} {M : Mh} : dSs Γ c_written_words_3 D σ M = dSc Γ (.expr (.bm false .extend (.var 1) (.cons (.ite (.cmp .Eq (.var 3) (.lit (.str "x"))) (.call 30 (.cons (.var 2) .nil)) (.lst false (.cons (.blt false .str (.cons (.var 2) .nil)) .nil))) .nil))) { D with nx := dSs Γ .nil D } σ M := rfl
def c_written_words_2 : Ss := .cons (.ret (.frz (.var 1))) .nil
theorem st_written_words_2 {Γ : Gam} {D : Dw} {σ : Sw} {M : Mh} : dSs Γ c_written_words_2 D σ M = dSc Γ (.ret (.frz (.var 1))) { D with nx := dSs Γ .nil D } σ M := rfl
def c_written_words_1 : Ss := .cons (.for_ (.tup [2, 3]) (.zip (.slice false (.var 0) (.some (.lit (.int 1))) .none) (.kidx 0 (.idx (.var 0) (.lit (.int 0))))) c_written_words_3) c_written_words_2
theorem st_written_words_1 {Γ : Gam} {D : Dw} {σ : Sw} {M : Mh} : dSs Γ c_written_words_1 D σ M = dSc Γ (.for_ (.tup [2, 3]) (.zip (.slice false (.var 0) (.some (.lit (.int 1))) .none) (.kidx 0 (.idx (.var 0) (.lit (.int 0))))) c_written_words_3) { D with nx := dSs Γ c_written_words_2 D } σ M := rfl
def c_written_words : Ss := .cons (.asg (.name 1) (.lst true (.cons (.idx (.var 0) (.lit (.int 0))) .nil))) c_written_words_1
theorem st_written_words {Γ : Gam} {D : Dw} {σ : Sw} {M : Mh} : dSs Γ c_written_words D σ M = dSc Γ (.asg (.name 1) (.lst true (.cons (.idx (.var 0) (.lit (.int 0))) .nil))) { D with nx := dSs Γ c_written_words_1 D } σ M := rfl
def n_written_words : List Str := ["body", "found", "arm", "sort"]
def c_written_1 : Ss := .cons (.ret (.bm false .join (.lit (.str "\n")) (.cons (.lc false (.bm false .join (.lit (.str " ")) (.cons (.bin .Add false (.lst false (.cons (.blt false .str (.cons (.var 1) .nil)) .nil)) (.call 30 (.cons (.var 2) .nil))) .nil)) (.tup [1, 2]) (.seq (.var 0)) .none [("size", 1), ("body", 2)]) .nil))) .nil
theorem st_written_1 {Γ : Gam} {D : Dw} {σ : Sw} {M : Mh} : dSs Γ c_written_1 D σ M = dSc Γ (.ret (.bm false .join (.lit (.str "\n")) (.cons (.lc false (.bm false .join (.lit (.str " ")) (.cons (.bin .Add false (.lst false (.cons (.blt false .str (.cons (.var 1) .nil)) .nil)) (.call 30 (.cons (.var 2) .nil))) .nil)) (.tup [1, 2]) (.seq (.var 0)) .none [("size", 1), ("body", 2)]) .nil))) { D with nx := dSs Γ .nil D } σ M := rfl
def c_written : Ss := .cons (.expr (.call 3 (.cons (.var 0) .nil))) c_written_1
theorem st_written {Γ : Gam} {D : Dw} {σ : Sw} {M : Mh} : dSs Γ c_written D σ M = dSc Γ (.expr (.call 3 (.cons (.var 0) .nil))) { D with nx := dSs Γ c_written_1 D } σ M := rfl
def n_written : List Str := ["program", "size", "body"]
theorem len_app (a b : Str) : (a ++ b).length = a.length + b.length := by
  show (a.cps ++ b.cps).size = _
  rw [Array.size_append]
  rfl
theorem app_assoc (a b c : Str) : a ++ b ++ c = a ++ (b ++ c) := by
  show (⟨a.cps ++ b.cps ++ c.cps⟩ : Str) = ⟨a.cps ++ (b.cps ++ c.cps)⟩
  rw [Array.append_assoc]
theorem join_cons (y x : Str) {zs : List Str} (h : zs ≠ []) : Txt.join y (x :: zs) = x ++ (y ++ Txt.join y zs) := by
  cases zs with
  | nil => exact absurd rfl h
  | cons z r =>
    rw [TL.join_eq, TL.join_eq]
    show x ++ y ++ Str.join y (z :: r) = _
    rw [app_assoc]
theorem join_one (y x : Str) : Txt.join y [x] = x := by rw [TL.join_eq]; rfl
theorem join_app (y : Str) : ∀ {as bs : List Str}, as ≠ [] → bs ≠ [] → Txt.join y (as ++ bs) = Txt.join y as ++ (y ++ Txt.join y bs)
  | [], _, h, _ => absurd rfl h
  | [a], bs, _, hb => by rw [join_one]; exact join_cons y a hb
  | a :: c :: as, bs, _, hb => by
    rw [List.cons_append, join_cons y a (by simp), join_app y (as := c :: as) (by simp) hb, join_cons y a (by simp), app_assoc, app_assoc]
theorem join_nest (y : Str) : ∀ {ls : List (List Str)}, (∀ l ∈ ls, l ≠ []) → Txt.join y (ls.map (Txt.join y)) = Txt.join y ls.flatten
  | [], _ => rfl
  | [l], h => by rw [List.map_cons, List.map_nil, join_one]; simp
  | l :: m :: ls, h => by
    have hm : m ≠ [] := h m (by simp)
    rw [List.map_cons, join_cons y _ (by simp), join_nest y (ls := m :: ls) fun z hz => h z (List.mem_cons_of_mem _ hz), show (l :: m :: ls).flatten = l ++ (m :: ls).flatten from rfl, join_app y (h l (by simp)) (by
      rw [List.flatten_cons]
      cases m with
      | nil => exact absurd rfl hm
      | cons _ _ => simp)]
theorem join_len (y : Str) : ∀ (zs : List Str), (Txt.join y zs).length ≤ (zs.map (·.length)).sum + zs.length * y.length
  | [] => by rw [TL.join_eq]; exact Nat.zero_le _
  | [x] => by rw [join_one]; simp
  | x :: z :: r => by
    have := join_len y (z :: r)
    rw [join_cons y x (by simp), len_app, len_app, List.map_cons, List.sum_cons, List.length_cons]
    have e : (z :: r).length * y.length + y.length = ((z :: r).length + 1) * y.length := by rw [Nat.add_mul, Nat.one_mul]
    omega
def numS (n : Nat) : Str := Str.ofString (toString (n : Int))
def Bd.toks : Bd → List Str
  | .num n => ["num", numS n]
  | .arg => ["argument"]
  | .way f => ["way", numS f]
  | .plus a b => "plus" :: (a.toks ++ b.toks)
  | .less a b => "less" :: (a.toks ++ b.toks)
  | .times a b => "times" :: (a.toks ++ b.toks)
  | .iff a b c => "if" :: (a.toks ++ (b.toks ++ c.toks))
  | .thn a b => "then" :: (a.toks ++ b.toks)
  | .say a => "say" :: a.toks
  | .call f a => "call" :: numS f :: a.toks
  | .thr a b => "through" :: (a.toks ++ b.toks)
theorem Bd.toks_ne (b : Bd) : b.toks ≠ [] := by cases b <;> simp [Bd.toks]
def Bd.text (b : Bd) : Str := Txt.join " " b.toks
def Bd.ptx (b : Bd) : List Str := match b with
  | .num n => ["num", numS n]
  | .arg => ["argument"]
  | .way f => ["way", numS f]
  | .plus a b => ["plus", a.text, b.text]
  | .less a b => ["less", a.text, b.text]
  | .times a b => ["times", a.text, b.text]
  | .iff a b c => ["if", a.text, b.text, c.text]
  | .thn a b => ["then", a.text, b.text]
  | .say a => ["say", a.text]
  | .call f a => ["call", numS f, a.text]
  | .thr a b => ["through", a.text, b.text]
def strG : W → Option W
  | .str s => some (.str s)
  | .int i => some (.str (Str.ofString (toString i)))
  | _ => none
theorem Bd.ptx_parts (b : Bd) : (b.parts (fun a => some (.str a.text)) strG).filterMap (·.2) = b.ptx.map W.str := by cases b <;> rfl
theorem Bd.ptx_join (b : Bd) : Txt.join " " b.ptx = b.text := by
  have one : ∀ x : Str, x = Txt.join " " [x] := fun x => (join_one _ x).symm
  cases b
  case num n => rfl
  case arg => rfl
  case way n => rfl
  case iff a b c =>
    have := join_nest " " (ls := [["if"], a.toks, b.toks, c.toks]) (by simp [Bd.toks_ne])
    simpa [join_one, Bd.text, Bd.toks, Bd.ptx] using this
  case say a =>
    have := join_nest " " (ls := [["say"], a.toks]) (by simp [Bd.toks_ne])
    simpa [join_one, Bd.text, Bd.toks, Bd.ptx] using this
  case call f a =>
    have := join_nest " " (ls := [["call"], [numS f], a.toks]) (by simp [Bd.toks_ne])
    simpa [join_one, Bd.text, Bd.toks, Bd.ptx] using this
  case plus a b =>
    have := join_nest " " (ls := [["plus"], a.toks, b.toks]) (by simp [Bd.toks_ne])
    simpa [join_one, Bd.text, Bd.toks, Bd.ptx] using this
  case less a b =>
    have := join_nest " " (ls := [["less"], a.toks, b.toks]) (by simp [Bd.toks_ne])
    simpa [join_one, Bd.text, Bd.toks, Bd.ptx] using this
  case times a b =>
    have := join_nest " " (ls := [["times"], a.toks, b.toks]) (by simp [Bd.toks_ne])
    simpa [join_one, Bd.text, Bd.toks, Bd.ptx] using this
  case thn a b =>
    have := join_nest " " (ls := [["then"], a.toks, b.toks]) (by simp [Bd.toks_ne])
    simpa [join_one, Bd.text, Bd.toks, Bd.ptx] using this
  case thr a b =>
    have := join_nest " " (ls := [["through"], a.toks, b.toks]) (by simp [Bd.toks_ne])
    simpa [join_one, Bd.text, Bd.toks, Bd.ptx] using this
theorem len_num {n : Nat} (h : n ≤ 99) : (numS n).length ≤ 2 := by
  have := TL.numL_len (n := n) (k := 2) (by decide) (by omega)
  rw [← TL.tl_num, ← TL.len_tl] at this
  exact this
theorem Bd.size {m : Nat} (hm : m ≤ 99) : ∀ b : Bd, b.ok m → (b.toks.map (·.length)).sum ≤ 10 * b.cnt ∧ b.toks.length ≤ 2 * b.cnt
  | .num n, h => by
    have := len_num (n := n) h
    have e : Str.length "num" = 3 := rfl
    simp only [Bd.toks, Bd.cnt, List.map_cons, List.map_nil, List.sum_cons, List.sum_nil, List.length_cons, List.length_nil]
    omega
  | .arg, _ => by decide +kernel
  | .way n, h => by
    have h : n < m := h
    have := len_num (n := n) (by omega)
    have e : Str.length "way" = 3 := rfl
    simp only [Bd.toks, Bd.cnt, List.map_cons, List.map_nil, List.sum_cons, List.sum_nil, List.length_cons, List.length_nil]
    omega
  | .plus a b, h => by
    have := a.size hm h.1
    have := b.size hm h.2
    have e : Str.length "plus" = 4 := rfl
    simp only [Bd.toks, Bd.cnt, List.map_cons, List.map_append, List.sum_cons, List.sum_append, List.length_cons, List.length_append]
    omega
  | .less a b, h => by
    have := a.size hm h.1
    have := b.size hm h.2
    have e : Str.length "less" = 4 := rfl
    simp only [Bd.toks, Bd.cnt, List.map_cons, List.map_append, List.sum_cons, List.sum_append, List.length_cons, List.length_append]
    omega
  | .times a b, h => by
    have := a.size hm h.1
    have := b.size hm h.2
    have e : Str.length "times" = 5 := rfl
    simp only [Bd.toks, Bd.cnt, List.map_cons, List.map_append, List.sum_cons, List.sum_append, List.length_cons, List.length_append]
    omega
  | .iff a b c, h => by
    have := a.size hm h.1
    have := b.size hm h.2.1
    have := c.size hm h.2.2
    have e : Str.length "if" = 2 := rfl
    simp only [Bd.toks, Bd.cnt, List.map_cons, List.map_append, List.sum_cons, List.sum_append, List.length_cons, List.length_append]
    omega
  | .thn a b, h => by
    have := a.size hm h.1
    have := b.size hm h.2
    have e : Str.length "then" = 4 := rfl
    simp only [Bd.toks, Bd.cnt, List.map_cons, List.map_append, List.sum_cons, List.sum_append, List.length_cons, List.length_append]
    omega
  | .say a, h => by
    have := a.size hm h
    have e : Str.length "say" = 3 := rfl
    simp only [Bd.toks, Bd.cnt, List.map_cons, List.sum_cons, List.length_cons]
    omega
  | .call f a, h => by
    have := a.size hm h.2
    have hf : f < m := h.1
    have := len_num (n := f) (by omega)
    have e : Str.length "call" = 4 := rfl
    simp only [Bd.toks, Bd.cnt, List.map_cons, List.sum_cons, List.length_cons]
    omega
  | .thr a b, h => by
    have := a.size hm h.1
    have := b.size hm h.2
    have e : Str.length "through" = 7 := rfl
    simp only [Bd.toks, Bd.cnt, List.map_cons, List.map_append, List.sum_cons, List.sum_append, List.length_cons, List.length_append]
    omega
theorem sp1 : Str.length " " = 1 := rfl
theorem Bd.text_len {m : Nat} (hm : m ≤ 99) {b : Bd} (h : b.ok m) : b.text.length ≤ 12 * b.cnt := by
  have := b.size hm h
  have := join_len " " b.toks
  rw [sp1] at this
  unfold Bd.text
  omega
theorem Bd.args_ok {m : Nat} {b a : Bd} (h : a ∈ b.args) (ok : b.ok m) : a.ok m ∧ a.cnt + 1 ≤ b.cnt := by
  cases b <;> simp only [Bd.args, List.mem_cons, List.not_mem_nil, or_false] at h
  case iff => rcases h with rfl | rfl | rfl <;> simp only [Bd.cnt] <;> first | exact ⟨ok.1, by omega⟩ | exact ⟨ok.2.1, by omega⟩ | exact ⟨ok.2.2, by omega⟩
  case say => subst h; exact ⟨ok, by simp only [Bd.cnt]; omega⟩
  case call => subst h; exact ⟨ok.2, by simp only [Bd.cnt]; omega⟩
  all_goals (rcases h with rfl | rfl <;> simp only [Bd.cnt] <;> first | exact ⟨ok.1, by omega⟩ | exact ⟨ok.2, by omega⟩)
theorem Bd.ptx_len {m : Nat} (hm : m ≤ 99) {b : Bd} (h : b.ok m) : (b.ptx.map (·.length)).sum + b.ptx.length * 1 ≤ 20 * b.cnt + 100 := by
  have e1 : Str.length "num" = 3 := rfl
  have e2 : Str.length "argument" = 8 := rfl
  have e3 : Str.length "way" = 3 := rfl
  have e4 : Str.length "plus" = 4 := rfl
  have e5 : Str.length "less" = 4 := rfl
  have e6 : Str.length "times" = 5 := rfl
  have e7 : Str.length "if" = 2 := rfl
  have e8 : Str.length "then" = 4 := rfl
  have e9 : Str.length "say" = 3 := rfl
  have ea : Str.length "call" = 4 := rfl
  have eb : Str.length "through" = 7 := rfl
  have T : ∀ a ∈ b.args, a.text.length ≤ 12 * a.cnt := fun a ha => Bd.text_len hm (Bd.args_ok ha h).1
  cases b
  case num n => have := len_num (n := n) h; simp only [Bd.ptx, Bd.cnt, List.map_cons, List.map_nil, List.sum_cons, List.sum_nil, List.length_cons, List.length_nil]; omega
  case arg => simp only [Bd.ptx, Bd.cnt, List.map_cons, List.map_nil, List.sum_cons, List.sum_nil, List.length_cons, List.length_nil]; omega
  case way n => have h : n < m := h; have := len_num (n := n) (by omega); simp only [Bd.ptx, Bd.cnt, List.map_cons, List.map_nil, List.sum_cons, List.sum_nil, List.length_cons, List.length_nil]; omega
  case iff a b c => have := T a (by simp [Bd.args]); have := T b (by simp [Bd.args]); have := T c (by simp [Bd.args]); simp only [Bd.ptx, Bd.cnt, List.map_cons, List.map_nil, List.sum_cons, List.sum_nil, List.length_cons, List.length_nil]; omega
  case say a => have := T a (by simp [Bd.args]); simp only [Bd.ptx, Bd.cnt, List.map_cons, List.map_nil, List.sum_cons, List.sum_nil, List.length_cons, List.length_nil]; omega
  case call f a => have hf : f < m := h.1; have := len_num (n := f) (by omega); have := T a (by simp [Bd.args]); simp only [Bd.ptx, Bd.cnt, List.map_cons, List.map_nil, List.sum_cons, List.sum_nil, List.length_cons, List.length_nil]; omega
  all_goals
    rename_i a b
    have := T a (by simp [Bd.args])
    have := T b (by simp [Bd.args])
    simp only [Bd.ptx, Bd.cnt, List.map_cons, List.map_nil, List.sum_cons, List.sum_nil, List.length_cons, List.length_nil]
    omega
theorem log_num {n : Nat} (h : n ≤ 99) : ((n : Int)).natAbs.log2 < 1920 := by
  have : ∀ n : Nat, n ≤ 99 → n.log2 < 1920 := by decide
  exact this n h
def sp_l_text : Nat → Wp := fun k ws M Q _ => ∃ (b : Bd) (m : Nat), ws = [b.enc] ∧ b.ok m ∧ m ≤ 99 ∧ b.cnt ≤ 1000 ∧ b.ht ≤ k ∧ Q (.str b.text) M
theorem num_in {f : Bd → Option W} {m : Nat} {b : Bd} {i : Int} {y : Option W} (h : (W.int i, y) ∈ b.parts f strG) (ok : b.ok m) (hm : m ≤ 99) : ∃ n : Nat, i = n ∧ n ≤ 99 := by
  have ne : ∀ a : Bd, W.int i ≠ a.enc := fun a z => by rw [Bd.enc_eq] at z; cases z
  cases b <;> simp only [Bd.parts, List.mem_cons, List.not_mem_nil, or_false, Prod.mk.injEq, W.int.injEq, reduceCtorEq, false_and, false_or, ne] at h
  case num n => exact ⟨n, h.1, ok⟩
  case way n => have ok : n < m := ok; exact ⟨n, h.1, by omega⟩
  case call n a => have ok := ok.1; exact ⟨n, h.1, by omega⟩
theorem keep_l_text {Γ : Gam} {k : Nat} (f_l_text : Γ.fn 94 = dn sp_l_text k) : KeepC Γ n_l_text 1 c_l_text (sp_l_text k) := by
  rintro ws M Q Ex ⟨b, m, rfl, ok, hm, hc, hk, q⟩
  refine ⟨rfl, ?_⟩
  show dSs Γ _ _ [some b.enc, none] M
  rw [Bd.enc_eq]
  simp only [st_l_text, dLc, wipeW, BM.recv, BM.w, dX, dXs, dXo, dXi, dSc, d2, d1, dN, dVar, dC, dTup, dLst, dTru, dB, dChain, dIte, dNotV, dNotT, dJoinV, dJoinT, dNil, dCons, dCall, dBM, dIsi, dIsi2, dAttr, dMeth, dNew, dDget, dDin, dDnew, dKidx, dKin, dKget, dDisp, dFrz, dSlice, dNoPart, dPart, dAsg, dExpr, dRet, dIf, dFld, dSet, dDput, dNever, dFor, dNext, binP, cmpP, iSeqD, iRg1, iRg2, iZip, iEnumD, Tg.asg, setAll, List.set, List.map_cons, List.map_nil, subW, modW, fdivW, powW, ltW, leW, gtW, geW, newL, finD, frzO, tupW, listW, oneW, twoW, BI.w, ints_eq, add_int, add_str, add_tup, add_lst, mul_int, mul_lst, idx_tup, idx_lst, idx_scr, idx_str, len_tup, len_lst, len_scr, len_str, sl_tup, sl_lst, neg_int, str_int, str_str, int_int, int_bl, is_non, is_int, is_str, is_tup, is_lst, is_bl, is_bb, eq_int, eq_str, eq_bl, ne_int, ne_str, ne_bl, eq_nilL, ty_non, ty_bl, ty_int, ty_str, ty_tup, ty_lst, ty_scr, ty_dk, Ty.sub, tr_bl, tr_non, tr_int, tr_str, sv_lst, sv_tup, sv_scr, lv_lst, at0, at1, at2, cut1, len0, ss_nil, for_nil, for_cons, pairs_cons, pairs_nil, pairs_nil', walk_lst, walk_scr, walk_tup, walk_str, walk_ref, List.getElem?_cons_zero, List.getElem?_cons_succ, List.length_cons, List.length_nil, List.append_nil, List.cons_append, List.nil_append, Option.some.injEq, W.int.injEq, W.str.injEq, W.bl.injEq, W.tup.injEq, W.lst.injEq, W.ref.injEq, List.cons.injEq, Option.map_some, exists_and_left, exists_and_right, exists_eq_left, exists_eq_left', exists_eq, exists_eq', exists_eq_right, exists_eq_right', and_true, true_and, and_assoc, reduceIte, reduceCtorEq, decide_true, decide_false, decide_eq_true_eq, decide_eq_false_iff_not, Bool.not_eq_true', Bool.not_eq_false', Bool.true_eq_false, Bool.false_eq_true, if_true, if_false, Bool.not_true, Bool.not_false, ite_true, ite_false, Int.cast_ofNat_Int, Int.reduceAdd, Int.reduceSub, Int.reduceEq, Int.reduceLT, Int.reduceLE, Int.natCast_add, Nat.reduceEqDiff, Nat.reduceAdd, Nat.add_zero, Nat.zero_add, Nat.succ_ne_zero, not_true_eq_false, not_false_eq_true, Option.getD_some, Option.getD_none, f_l_text]
  refine ⟨rfl, szl (by have := b.ws_len; omega), lc_of (b.parts (fun a => some (.str a.text)) strG) b.parts_ws (fun _ _ _ => trivial) (fun D hD p hp us => ?_) ?_⟩
  · refine ⟨_, rfl, fun R h => ?_, fun y hy R h => ?_⟩
    · rcases Bd.parts_in hp with ⟨a, ha, rfl⟩ | ⟨s, rfl⟩ | ⟨n, rfl⟩ <;> exact h
    · rcases Bd.parts_in hp with ⟨a, ha, rfl⟩ | ⟨s, rfl⟩ | ⟨n, rfl⟩
      · have := Bd.args_ht ha
        obtain ⟨oa, ca⟩ := Bd.args_ok ha ok
        cases k with
        | zero => omega
        | succ k =>
        cases hy
        rw [Bd.enc_eq]
        simp only [dX, dXs, dXo, dXi, dSc, d2, d1, dN, dVar, dC, dTup, dLst, dTru, dB, dChain, dIte, dNotV, dNotT, dJoinV, dJoinT, dNil, dCons, dCall, dBM, dIsi, dIsi2, dAttr, dMeth, dNew, dDget, dDin, dDnew, dKidx, dKin, dKget, dDisp, dFrz, dSlice, dNoPart, dPart, dAsg, dExpr, dRet, dIf, dFld, dSet, dDput, dNever, dFor, dNext, binP, cmpP, iSeqD, iRg1, iRg2, iZip, iEnumD, Tg.asg, setAll, List.set, List.map_cons, List.map_nil, subW, modW, fdivW, powW, ltW, leW, gtW, geW, newL, finD, frzO, tupW, listW, oneW, twoW, BI.w, ints_eq, add_int, add_str, add_tup, add_lst, mul_int, mul_lst, idx_tup, idx_lst, idx_scr, idx_str, len_tup, len_lst, len_scr, len_str, sl_tup, sl_lst, neg_int, str_int, str_str, int_int, int_bl, is_non, is_int, is_str, is_tup, is_lst, is_bl, is_bb, eq_int, eq_str, eq_bl, ne_int, ne_str, ne_bl, eq_nilL, ty_non, ty_bl, ty_int, ty_str, ty_tup, ty_lst, ty_scr, ty_dk, Ty.sub, tr_bl, tr_non, tr_int, tr_str, sv_lst, sv_tup, sv_scr, lv_lst, at0, at1, at2, cut1, len0, ss_nil, for_nil, for_cons, pairs_cons, pairs_nil, pairs_nil', walk_lst, walk_scr, walk_tup, walk_str, walk_ref, List.getElem?_cons_zero, List.getElem?_cons_succ, List.length_cons, List.length_nil, List.append_nil, List.cons_append, List.nil_append, Option.some.injEq, W.int.injEq, W.str.injEq, W.bl.injEq, W.tup.injEq, W.lst.injEq, W.ref.injEq, List.cons.injEq, Option.map_some, exists_and_left, exists_and_right, exists_eq_left, exists_eq_left', exists_eq, exists_eq', exists_eq_right, exists_eq_right', and_true, true_and, and_assoc, reduceIte, reduceCtorEq, decide_true, decide_false, decide_eq_true_eq, decide_eq_false_iff_not, Bool.not_eq_true', Bool.not_eq_false', Bool.true_eq_false, Bool.false_eq_true, if_true, if_false, Bool.not_true, Bool.not_false, ite_true, ite_false, Int.cast_ofNat_Int, Int.reduceAdd, Int.reduceSub, Int.reduceEq, Int.reduceLT, Int.reduceLE, Int.natCast_add, Nat.reduceEqDiff, Nat.reduceAdd, Nat.add_zero, Nat.zero_add, Nat.succ_ne_zero, not_true_eq_false, not_false_eq_true, Option.getD_some, Option.getD_none, dn]
        rw [← Bd.enc_eq]
        exact ⟨a, m, rfl, oa, hm, by omega, by omega, h⟩
      · cases hy
        simp only [dX, dXs, dXo, dXi, dSc, d2, d1, dN, dVar, dC, dTup, dLst, dTru, dB, dChain, dIte, dNotV, dNotT, dJoinV, dJoinT, dNil, dCons, dCall, dBM, dIsi, dIsi2, dAttr, dMeth, dNew, dDget, dDin, dDnew, dKidx, dKin, dKget, dDisp, dFrz, dSlice, dNoPart, dPart, dAsg, dExpr, dRet, dIf, dFld, dSet, dDput, dNever, dFor, dNext, binP, cmpP, iSeqD, iRg1, iRg2, iZip, iEnumD, Tg.asg, setAll, List.set, List.map_cons, List.map_nil, subW, modW, fdivW, powW, ltW, leW, gtW, geW, newL, finD, frzO, tupW, listW, oneW, twoW, BI.w, ints_eq, add_int, add_str, add_tup, add_lst, mul_int, mul_lst, idx_tup, idx_lst, idx_scr, idx_str, len_tup, len_lst, len_scr, len_str, sl_tup, sl_lst, neg_int, str_int, str_str, int_int, int_bl, is_non, is_int, is_str, is_tup, is_lst, is_bl, is_bb, eq_int, eq_str, eq_bl, ne_int, ne_str, ne_bl, eq_nilL, ty_non, ty_bl, ty_int, ty_str, ty_tup, ty_lst, ty_scr, ty_dk, Ty.sub, tr_bl, tr_non, tr_int, tr_str, sv_lst, sv_tup, sv_scr, lv_lst, at0, at1, at2, cut1, len0, ss_nil, for_nil, for_cons, pairs_cons, pairs_nil, pairs_nil', walk_lst, walk_scr, walk_tup, walk_str, walk_ref, List.getElem?_cons_zero, List.getElem?_cons_succ, List.length_cons, List.length_nil, List.append_nil, List.cons_append, List.nil_append, Option.some.injEq, W.int.injEq, W.str.injEq, W.bl.injEq, W.tup.injEq, W.lst.injEq, W.ref.injEq, List.cons.injEq, Option.map_some, exists_and_left, exists_and_right, exists_eq_left, exists_eq_left', exists_eq, exists_eq', exists_eq_right, exists_eq_right', and_true, true_and, and_assoc, reduceIte, reduceCtorEq, decide_true, decide_false, decide_eq_true_eq, decide_eq_false_iff_not, Bool.not_eq_true', Bool.not_eq_false', Bool.true_eq_false, Bool.false_eq_true, if_true, if_false, Bool.not_true, Bool.not_false, ite_true, ite_false, Int.cast_ofNat_Int, Int.reduceAdd, Int.reduceSub, Int.reduceEq, Int.reduceLT, Int.reduceLE, Int.natCast_add, Nat.reduceEqDiff, Nat.reduceAdd, Nat.add_zero, Nat.zero_add, Nat.succ_ne_zero, not_true_eq_false, not_false_eq_true, Option.getD_some, Option.getD_none]
        exact h
      · obtain ⟨n', e, hn⟩ := num_in hp ok hm
        have e : n = n' := by omega
        subst e
        cases hy
        simp only [dX, dXs, dXo, dXi, dSc, d2, d1, dN, dVar, dC, dTup, dLst, dTru, dB, dChain, dIte, dNotV, dNotT, dJoinV, dJoinT, dNil, dCons, dCall, dBM, dIsi, dIsi2, dAttr, dMeth, dNew, dDget, dDin, dDnew, dKidx, dKin, dKget, dDisp, dFrz, dSlice, dNoPart, dPart, dAsg, dExpr, dRet, dIf, dFld, dSet, dDput, dNever, dFor, dNext, binP, cmpP, iSeqD, iRg1, iRg2, iZip, iEnumD, Tg.asg, setAll, List.set, List.map_cons, List.map_nil, subW, modW, fdivW, powW, ltW, leW, gtW, geW, newL, finD, frzO, tupW, listW, oneW, twoW, BI.w, ints_eq, add_int, add_str, add_tup, add_lst, mul_int, mul_lst, idx_tup, idx_lst, idx_scr, idx_str, len_tup, len_lst, len_scr, len_str, sl_tup, sl_lst, neg_int, str_int, str_str, int_int, int_bl, is_non, is_int, is_str, is_tup, is_lst, is_bl, is_bb, eq_int, eq_str, eq_bl, ne_int, ne_str, ne_bl, eq_nilL, ty_non, ty_bl, ty_int, ty_str, ty_tup, ty_lst, ty_scr, ty_dk, Ty.sub, tr_bl, tr_non, tr_int, tr_str, sv_lst, sv_tup, sv_scr, lv_lst, at0, at1, at2, cut1, len0, ss_nil, for_nil, for_cons, pairs_cons, pairs_nil, pairs_nil', walk_lst, walk_scr, walk_tup, walk_str, walk_ref, List.getElem?_cons_zero, List.getElem?_cons_succ, List.length_cons, List.length_nil, List.append_nil, List.cons_append, List.nil_append, Option.some.injEq, W.int.injEq, W.str.injEq, W.bl.injEq, W.tup.injEq, W.lst.injEq, W.ref.injEq, List.cons.injEq, Option.map_some, exists_and_left, exists_and_right, exists_eq_left, exists_eq_left', exists_eq, exists_eq', exists_eq_right, exists_eq_right', and_true, true_and, and_assoc, reduceIte, reduceCtorEq, decide_true, decide_false, decide_eq_true_eq, decide_eq_false_iff_not, Bool.not_eq_true', Bool.not_eq_false', Bool.true_eq_false, Bool.false_eq_true, if_true, if_false, Bool.not_true, Bool.not_false, ite_true, ite_false, Int.cast_ofNat_Int, Int.reduceAdd, Int.reduceSub, Int.reduceEq, Int.reduceLT, Int.reduceLE, Int.natCast_add, Nat.reduceEqDiff, Nat.reduceAdd, Nat.add_zero, Nat.zero_add, Nat.succ_ne_zero, not_true_eq_false, not_false_eq_true, Option.getD_some, Option.getD_none]
        exact ⟨log_num hn, h⟩
  · rw [Bd.ptx_parts]
    refine ⟨b.ptx, rfl, ?_, ?_⟩
    · have := Bd.ptx_len hm ok
      rw [sp1]
      omega
    · rw [Bd.ptx_join]
      exact q
end WL
namespace WL
open PySem L2
theorem ext_mup {M : Mh} {a : Addr} {ws us : List W} {Q : QW} : extendW (.ref a) [.lst us] (mup M a (.lst ws)) Q = (ws.length + us.length ≤ sizeLine ∧ Q .non (mup M a (.lst (ws ++ us)))) := by
  show (∃ ws' us', mup M a (.lst ws) a = some (.lst ws') ∧ lv _ (.lst us) = some us' ∧ ws'.length + us'.length ≤ sizeLine ∧ Q .non (mup (mup M a (.lst ws)) a (.lst (ws' ++ us')))) = _
  simp [mup_at, lv_lst, mup_mup]
theorem app_mup {M : Mh} {a : Addr} {ws : List W} {y : W} {Q : QW} : appendW (.ref a) [y] (mup M a (.lst ws)) Q = (ws.length < sizeLine ∧ Q .non (mup M a (.lst (ws ++ [y])))) := by
  show (∃ ws', mup M a (.lst ws) a = some (.lst ws') ∧ ws'.length < sizeLine ∧ Q .non (mup (mup M a (.lst ws)) a (.lst (ws' ++ [y])))) = _
  simp [mup_at, mup_mup]
theorem recv_mup {M : Mh} {a : Addr} {ws : List W} {b : BM} : BM.recv (mup M a (.lst ws)) b (.ref a) = (b.cls = "list") := by
  show (b.cls = "list" ∧ ∃ us, mup M a (.lst ws) a = some (.lst us)) = _
  simp [mup_at]
theorem frz_mup {M : Mh} {a : Addr} {o : MO} {Q : QW} : frzW (.ref a) (mup M a o) Q = Q (frzO o) (mdel (mup M a o) a) := by
  show (∃ u, mup M a o a = some u ∧ _) = _
  simp [mup_at]
theorem cls_ext : BM.cls .extend = "list" := rfl
theorem cls_app : BM.cls .append = "list" := rfl
def sp_written_words : Nat → Wp := fun k ws M Q _ => ∃ (b : Bd) (m : Nat), ws = [b.enc] ∧ b.ok m ∧ m ≤ 99 ∧ b.cnt ≤ 1000 ∧ b.ht ≤ k ∧ Q (.lst (b.toks.map W.str)) M
theorem use_ww {k m : Nat} {b : Bd} {M : Mh} {Q : QW} {Ex : QX} (h1 : b.ok m) (h2 : m ≤ 99) (h3 : b.cnt ≤ 1000) (h4 : b.ht ≤ k) (q : Q (.lst (b.toks.map W.str)) M) : sp_written_words k [b.enc] M Q Ex := ⟨b, m, rfl, h1, h2, h3, h4, q⟩
theorem keep_written_words {Γ : Gam} {k : Nat} (f_written_words : Γ.fn 30 = dn sp_written_words k) (k_ARMS : Γ.kd 0 = ARMS) : KeepC Γ n_written_words 1 c_written_words (sp_written_words k) := by
  rintro ws M Q Ex ⟨b, m, rfl, ok, hm, hc, hk, q⟩
  refine ⟨rfl, ?_⟩
  show dSs Γ _ _ [some b.enc, none, none, none] M
  have hT : ∀ a ∈ b.args, a.ok m ∧ a.cnt ≤ 1000 ∧ a.ht + 1 ≤ b.ht ∧ a.toks.length ≤ 2000 := fun a ha => by
    obtain ⟨o, c⟩ := Bd.args_ok ha ok
    have := (a.size hm o).2
    exact ⟨o, by omega, Bd.args_ht ha, by omega⟩
  rw [Bd.enc_eq]
  cases b with
  | num n =>
    simp only [Bd.ws, st_written_words_3, st_written_words_2, st_written_words_1, st_written_words, dX, dXs, dXo, dXi, dSc, d2, d1, dN, dVar, dC, dTup, dLst, dTru, dB, dChain, dIte, dNotV, dNotT, dJoinV, dJoinT, dNil, dCons, dCall, dBM, dIsi, dIsi2, dAttr, dMeth, dNew, dDget, dDin, dDnew, dKidx, dKin, dKget, dDisp, dFrz, dSlice, dNoPart, dPart, dAsg, dExpr, dRet, dIf, dFld, dSet, dDput, dNever, dFor, dNext, binP, cmpP, iSeqD, iRg1, iRg2, iZip, iEnumD, Tg.asg, setAll, List.set, List.map_cons, List.map_nil, subW, modW, fdivW, powW, ltW, leW, gtW, geW, newL, finD, frzO, tupW, listW, oneW, twoW, BI.w, ints_eq, add_int, add_str, add_tup, add_lst, mul_int, mul_lst, idx_tup, idx_lst, idx_scr, idx_str, len_tup, len_lst, len_scr, len_str, sl_tup, sl_lst, neg_int, str_int, str_str, int_int, int_bl, is_non, is_int, is_str, is_tup, is_lst, is_bl, is_bb, eq_int, eq_str, eq_bl, ne_int, ne_str, ne_bl, eq_nilL, ty_non, ty_bl, ty_int, ty_str, ty_tup, ty_lst, ty_scr, ty_dk, Ty.sub, tr_bl, tr_non, tr_int, tr_str, sv_lst, sv_tup, sv_scr, lv_lst, at0, at1, at2, cut1, len0, ss_nil, for_nil, for_cons, pairs_cons, pairs_nil, pairs_nil', walk_lst, walk_scr, walk_tup, walk_str, walk_ref, List.getElem?_cons_zero, List.getElem?_cons_succ, List.length_cons, List.length_nil, List.append_nil, List.cons_append, List.nil_append, Option.some.injEq, W.int.injEq, W.str.injEq, W.bl.injEq, W.tup.injEq, W.lst.injEq, W.ref.injEq, List.cons.injEq, Option.map_some, exists_and_left, exists_and_right, exists_eq_left, exists_eq_left', exists_eq, exists_eq', exists_eq_right, exists_eq_right', and_true, true_and, and_assoc, reduceIte, reduceCtorEq, decide_true, decide_false, decide_eq_true_eq, decide_eq_false_iff_not, Bool.not_eq_true', Bool.not_eq_false', Bool.true_eq_false, Bool.false_eq_true, if_true, if_false, Bool.not_true, Bool.not_false, ite_true, ite_false, Int.cast_ofNat_Int, Int.reduceAdd, Int.reduceSub, Int.reduceEq, Int.reduceLT, Int.reduceLE, Int.natCast_add, Nat.reduceEqDiff, Nat.reduceAdd, Nat.add_zero, Nat.zero_add, Nat.succ_ne_zero, not_true_eq_false, not_false_eq_true, Option.getD_some, Option.getD_none, f_written_words, k_ARMS, dn, tl_num, sg_n, BM.w, nx, fx]
    refine ⟨by decide, fun L hL => ?_⟩
    simp only [recv_mup, cls_ext, ext_mup, true_and]
    refine ⟨log_num ok, by decide, ?_⟩
    refine ⟨szl (by simp), ?_⟩
    rw [frz_mup, mdel_mup hL]
    simpa [frzO, Bd.toks, numS] using q
  | arg =>
    simp only [Bd.ws, st_written_words_3, st_written_words_2, st_written_words_1, st_written_words, dX, dXs, dXo, dXi, dSc, d2, d1, dN, dVar, dC, dTup, dLst, dTru, dB, dChain, dIte, dNotV, dNotT, dJoinV, dJoinT, dNil, dCons, dCall, dBM, dIsi, dIsi2, dAttr, dMeth, dNew, dDget, dDin, dDnew, dKidx, dKin, dKget, dDisp, dFrz, dSlice, dNoPart, dPart, dAsg, dExpr, dRet, dIf, dFld, dSet, dDput, dNever, dFor, dNext, binP, cmpP, iSeqD, iRg1, iRg2, iZip, iEnumD, Tg.asg, setAll, List.set, List.map_cons, List.map_nil, subW, modW, fdivW, powW, ltW, leW, gtW, geW, newL, finD, frzO, tupW, listW, oneW, twoW, BI.w, ints_eq, add_int, add_str, add_tup, add_lst, mul_int, mul_lst, idx_tup, idx_lst, idx_scr, idx_str, len_tup, len_lst, len_scr, len_str, sl_tup, sl_lst, neg_int, str_int, str_str, int_int, int_bl, is_non, is_int, is_str, is_tup, is_lst, is_bl, is_bb, eq_int, eq_str, eq_bl, ne_int, ne_str, ne_bl, eq_nilL, ty_non, ty_bl, ty_int, ty_str, ty_tup, ty_lst, ty_scr, ty_dk, Ty.sub, tr_bl, tr_non, tr_int, tr_str, sv_lst, sv_tup, sv_scr, lv_lst, at0, at1, at2, cut1, len0, ss_nil, for_nil, for_cons, pairs_cons, pairs_nil, pairs_nil', walk_lst, walk_scr, walk_tup, walk_str, walk_ref, List.getElem?_cons_zero, List.getElem?_cons_succ, List.length_cons, List.length_nil, List.append_nil, List.cons_append, List.nil_append, Option.some.injEq, W.int.injEq, W.str.injEq, W.bl.injEq, W.tup.injEq, W.lst.injEq, W.ref.injEq, List.cons.injEq, Option.map_some, exists_and_left, exists_and_right, exists_eq_left, exists_eq_left', exists_eq, exists_eq', exists_eq_right, exists_eq_right', and_true, true_and, and_assoc, reduceIte, reduceCtorEq, decide_true, decide_false, decide_eq_true_eq, decide_eq_false_iff_not, Bool.not_eq_true', Bool.not_eq_false', Bool.true_eq_false, Bool.false_eq_true, if_true, if_false, Bool.not_true, Bool.not_false, ite_true, ite_false, Int.cast_ofNat_Int, Int.reduceAdd, Int.reduceSub, Int.reduceEq, Int.reduceLT, Int.reduceLE, Int.natCast_add, Nat.reduceEqDiff, Nat.reduceAdd, Nat.add_zero, Nat.zero_add, Nat.succ_ne_zero, not_true_eq_false, not_false_eq_true, Option.getD_some, Option.getD_none, f_written_words, k_ARMS, dn, tl_argument, sg_0, BM.w, nx, fx]
    refine ⟨by decide, fun L hL => ?_⟩
    rw [frz_mup, mdel_mup hL]
    simpa [frzO, Bd.toks, numS] using q
  | way f =>
    simp only [Bd.ws, st_written_words_3, st_written_words_2, st_written_words_1, st_written_words, dX, dXs, dXo, dXi, dSc, d2, d1, dN, dVar, dC, dTup, dLst, dTru, dB, dChain, dIte, dNotV, dNotT, dJoinV, dJoinT, dNil, dCons, dCall, dBM, dIsi, dIsi2, dAttr, dMeth, dNew, dDget, dDin, dDnew, dKidx, dKin, dKget, dDisp, dFrz, dSlice, dNoPart, dPart, dAsg, dExpr, dRet, dIf, dFld, dSet, dDput, dNever, dFor, dNext, binP, cmpP, iSeqD, iRg1, iRg2, iZip, iEnumD, Tg.asg, setAll, List.set, List.map_cons, List.map_nil, subW, modW, fdivW, powW, ltW, leW, gtW, geW, newL, finD, frzO, tupW, listW, oneW, twoW, BI.w, ints_eq, add_int, add_str, add_tup, add_lst, mul_int, mul_lst, idx_tup, idx_lst, idx_scr, idx_str, len_tup, len_lst, len_scr, len_str, sl_tup, sl_lst, neg_int, str_int, str_str, int_int, int_bl, is_non, is_int, is_str, is_tup, is_lst, is_bl, is_bb, eq_int, eq_str, eq_bl, ne_int, ne_str, ne_bl, eq_nilL, ty_non, ty_bl, ty_int, ty_str, ty_tup, ty_lst, ty_scr, ty_dk, Ty.sub, tr_bl, tr_non, tr_int, tr_str, sv_lst, sv_tup, sv_scr, lv_lst, at0, at1, at2, cut1, len0, ss_nil, for_nil, for_cons, pairs_cons, pairs_nil, pairs_nil', walk_lst, walk_scr, walk_tup, walk_str, walk_ref, List.getElem?_cons_zero, List.getElem?_cons_succ, List.length_cons, List.length_nil, List.append_nil, List.cons_append, List.nil_append, Option.some.injEq, W.int.injEq, W.str.injEq, W.bl.injEq, W.tup.injEq, W.lst.injEq, W.ref.injEq, List.cons.injEq, Option.map_some, exists_and_left, exists_and_right, exists_eq_left, exists_eq_left', exists_eq, exists_eq', exists_eq_right, exists_eq_right', and_true, true_and, and_assoc, reduceIte, reduceCtorEq, decide_true, decide_false, decide_eq_true_eq, decide_eq_false_iff_not, Bool.not_eq_true', Bool.not_eq_false', Bool.true_eq_false, Bool.false_eq_true, if_true, if_false, Bool.not_true, Bool.not_false, ite_true, ite_false, Int.cast_ofNat_Int, Int.reduceAdd, Int.reduceSub, Int.reduceEq, Int.reduceLT, Int.reduceLE, Int.natCast_add, Nat.reduceEqDiff, Nat.reduceAdd, Nat.add_zero, Nat.zero_add, Nat.succ_ne_zero, not_true_eq_false, not_false_eq_true, Option.getD_some, Option.getD_none, f_written_words, k_ARMS, dn, tl_way, sg_f, BM.w, nx, fx]
    refine ⟨by decide, fun L hL => ?_⟩
    simp only [recv_mup, cls_ext, ext_mup, true_and]
    refine ⟨log_num (by have h : f < m := ok; omega), by decide, ?_⟩
    refine ⟨szl (by simp), ?_⟩
    rw [frz_mup, mdel_mup hL]
    simpa [frzO, Bd.toks, numS] using q
  | plus a b =>
    obtain ⟨oa, ca, ha, la⟩ := hT a (by simp [Bd.args])
    obtain ⟨ob, cb, hb, lb⟩ := hT b (by simp [Bd.args])
    cases k with
    | zero => omega
    | succ k =>
    simp only [Bd.ws, st_written_words_3, st_written_words_2, st_written_words_1, st_written_words, dX, dXs, dXo, dXi, dSc, d2, d1, dN, dVar, dC, dTup, dLst, dTru, dB, dChain, dIte, dNotV, dNotT, dJoinV, dJoinT, dNil, dCons, dCall, dBM, dIsi, dIsi2, dAttr, dMeth, dNew, dDget, dDin, dDnew, dKidx, dKin, dKget, dDisp, dFrz, dSlice, dNoPart, dPart, dAsg, dExpr, dRet, dIf, dFld, dSet, dDput, dNever, dFor, dNext, binP, cmpP, iSeqD, iRg1, iRg2, iZip, iEnumD, Tg.asg, setAll, List.set, List.map_cons, List.map_nil, subW, modW, fdivW, powW, ltW, leW, gtW, geW, newL, finD, frzO, tupW, listW, oneW, twoW, BI.w, ints_eq, add_int, add_str, add_tup, add_lst, mul_int, mul_lst, idx_tup, idx_lst, idx_scr, idx_str, len_tup, len_lst, len_scr, len_str, sl_tup, sl_lst, neg_int, str_int, str_str, int_int, int_bl, is_non, is_int, is_str, is_tup, is_lst, is_bl, is_bb, eq_int, eq_str, eq_bl, ne_int, ne_str, ne_bl, eq_nilL, ty_non, ty_bl, ty_int, ty_str, ty_tup, ty_lst, ty_scr, ty_dk, Ty.sub, tr_bl, tr_non, tr_int, tr_str, sv_lst, sv_tup, sv_scr, lv_lst, at0, at1, at2, cut1, len0, ss_nil, for_nil, for_cons, pairs_cons, pairs_nil, pairs_nil', walk_lst, walk_scr, walk_tup, walk_str, walk_ref, List.getElem?_cons_zero, List.getElem?_cons_succ, List.length_cons, List.length_nil, List.append_nil, List.cons_append, List.nil_append, Option.some.injEq, W.int.injEq, W.str.injEq, W.bl.injEq, W.tup.injEq, W.lst.injEq, W.ref.injEq, List.cons.injEq, Option.map_some, exists_and_left, exists_and_right, exists_eq_left, exists_eq_left', exists_eq, exists_eq', exists_eq_right, exists_eq_right', and_true, true_and, and_assoc, reduceIte, reduceCtorEq, decide_true, decide_false, decide_eq_true_eq, decide_eq_false_iff_not, Bool.not_eq_true', Bool.not_eq_false', Bool.true_eq_false, Bool.false_eq_true, if_true, if_false, Bool.not_true, Bool.not_false, ite_true, ite_false, Int.cast_ofNat_Int, Int.reduceAdd, Int.reduceSub, Int.reduceEq, Int.reduceLT, Int.reduceLE, Int.natCast_add, Nat.reduceEqDiff, Nat.reduceAdd, Nat.add_zero, Nat.zero_add, Nat.succ_ne_zero, not_true_eq_false, not_false_eq_true, Option.getD_some, Option.getD_none, f_written_words, k_ARMS, dn, tl_plus, sg_xx, BM.w, nx, fx]
    refine ⟨by decide, fun L hL => ?_⟩
    simp only [recv_mup, cls_ext, ext_mup, true_and]
    refine use_ww oa hm ca (by omega) ?_
    rw [ext_mup]
    refine ⟨szl (by simp only [List.length_append, List.length_map, List.length_cons, List.length_nil]; omega), ?_⟩
    simp only [recv_mup, cls_ext, true_and]
    refine use_ww ob hm cb (by omega) ?_
    rw [ext_mup]
    refine ⟨szl (by simp only [List.length_append, List.length_map, List.length_cons, List.length_nil]; omega), ?_⟩
    rw [frz_mup, mdel_mup hL]
    simpa [frzO, Bd.toks, numS] using q
  | less a b =>
    obtain ⟨oa, ca, ha, la⟩ := hT a (by simp [Bd.args])
    obtain ⟨ob, cb, hb, lb⟩ := hT b (by simp [Bd.args])
    cases k with
    | zero => omega
    | succ k =>
    simp only [Bd.ws, st_written_words_3, st_written_words_2, st_written_words_1, st_written_words, dX, dXs, dXo, dXi, dSc, d2, d1, dN, dVar, dC, dTup, dLst, dTru, dB, dChain, dIte, dNotV, dNotT, dJoinV, dJoinT, dNil, dCons, dCall, dBM, dIsi, dIsi2, dAttr, dMeth, dNew, dDget, dDin, dDnew, dKidx, dKin, dKget, dDisp, dFrz, dSlice, dNoPart, dPart, dAsg, dExpr, dRet, dIf, dFld, dSet, dDput, dNever, dFor, dNext, binP, cmpP, iSeqD, iRg1, iRg2, iZip, iEnumD, Tg.asg, setAll, List.set, List.map_cons, List.map_nil, subW, modW, fdivW, powW, ltW, leW, gtW, geW, newL, finD, frzO, tupW, listW, oneW, twoW, BI.w, ints_eq, add_int, add_str, add_tup, add_lst, mul_int, mul_lst, idx_tup, idx_lst, idx_scr, idx_str, len_tup, len_lst, len_scr, len_str, sl_tup, sl_lst, neg_int, str_int, str_str, int_int, int_bl, is_non, is_int, is_str, is_tup, is_lst, is_bl, is_bb, eq_int, eq_str, eq_bl, ne_int, ne_str, ne_bl, eq_nilL, ty_non, ty_bl, ty_int, ty_str, ty_tup, ty_lst, ty_scr, ty_dk, Ty.sub, tr_bl, tr_non, tr_int, tr_str, sv_lst, sv_tup, sv_scr, lv_lst, at0, at1, at2, cut1, len0, ss_nil, for_nil, for_cons, pairs_cons, pairs_nil, pairs_nil', walk_lst, walk_scr, walk_tup, walk_str, walk_ref, List.getElem?_cons_zero, List.getElem?_cons_succ, List.length_cons, List.length_nil, List.append_nil, List.cons_append, List.nil_append, Option.some.injEq, W.int.injEq, W.str.injEq, W.bl.injEq, W.tup.injEq, W.lst.injEq, W.ref.injEq, List.cons.injEq, Option.map_some, exists_and_left, exists_and_right, exists_eq_left, exists_eq_left', exists_eq, exists_eq', exists_eq_right, exists_eq_right', and_true, true_and, and_assoc, reduceIte, reduceCtorEq, decide_true, decide_false, decide_eq_true_eq, decide_eq_false_iff_not, Bool.not_eq_true', Bool.not_eq_false', Bool.true_eq_false, Bool.false_eq_true, if_true, if_false, Bool.not_true, Bool.not_false, ite_true, ite_false, Int.cast_ofNat_Int, Int.reduceAdd, Int.reduceSub, Int.reduceEq, Int.reduceLT, Int.reduceLE, Int.natCast_add, Nat.reduceEqDiff, Nat.reduceAdd, Nat.add_zero, Nat.zero_add, Nat.succ_ne_zero, not_true_eq_false, not_false_eq_true, Option.getD_some, Option.getD_none, f_written_words, k_ARMS, dn, tl_less, sg_xx, BM.w, nx, fx]
    refine ⟨by decide, fun L hL => ?_⟩
    simp only [recv_mup, cls_ext, ext_mup, true_and]
    refine use_ww oa hm ca (by omega) ?_
    rw [ext_mup]
    refine ⟨szl (by simp only [List.length_append, List.length_map, List.length_cons, List.length_nil]; omega), ?_⟩
    simp only [recv_mup, cls_ext, true_and]
    refine use_ww ob hm cb (by omega) ?_
    rw [ext_mup]
    refine ⟨szl (by simp only [List.length_append, List.length_map, List.length_cons, List.length_nil]; omega), ?_⟩
    rw [frz_mup, mdel_mup hL]
    simpa [frzO, Bd.toks, numS] using q
  | times a b =>
    obtain ⟨oa, ca, ha, la⟩ := hT a (by simp [Bd.args])
    obtain ⟨ob, cb, hb, lb⟩ := hT b (by simp [Bd.args])
    cases k with
    | zero => omega
    | succ k =>
    simp only [Bd.ws, st_written_words_3, st_written_words_2, st_written_words_1, st_written_words, dX, dXs, dXo, dXi, dSc, d2, d1, dN, dVar, dC, dTup, dLst, dTru, dB, dChain, dIte, dNotV, dNotT, dJoinV, dJoinT, dNil, dCons, dCall, dBM, dIsi, dIsi2, dAttr, dMeth, dNew, dDget, dDin, dDnew, dKidx, dKin, dKget, dDisp, dFrz, dSlice, dNoPart, dPart, dAsg, dExpr, dRet, dIf, dFld, dSet, dDput, dNever, dFor, dNext, binP, cmpP, iSeqD, iRg1, iRg2, iZip, iEnumD, Tg.asg, setAll, List.set, List.map_cons, List.map_nil, subW, modW, fdivW, powW, ltW, leW, gtW, geW, newL, finD, frzO, tupW, listW, oneW, twoW, BI.w, ints_eq, add_int, add_str, add_tup, add_lst, mul_int, mul_lst, idx_tup, idx_lst, idx_scr, idx_str, len_tup, len_lst, len_scr, len_str, sl_tup, sl_lst, neg_int, str_int, str_str, int_int, int_bl, is_non, is_int, is_str, is_tup, is_lst, is_bl, is_bb, eq_int, eq_str, eq_bl, ne_int, ne_str, ne_bl, eq_nilL, ty_non, ty_bl, ty_int, ty_str, ty_tup, ty_lst, ty_scr, ty_dk, Ty.sub, tr_bl, tr_non, tr_int, tr_str, sv_lst, sv_tup, sv_scr, lv_lst, at0, at1, at2, cut1, len0, ss_nil, for_nil, for_cons, pairs_cons, pairs_nil, pairs_nil', walk_lst, walk_scr, walk_tup, walk_str, walk_ref, List.getElem?_cons_zero, List.getElem?_cons_succ, List.length_cons, List.length_nil, List.append_nil, List.cons_append, List.nil_append, Option.some.injEq, W.int.injEq, W.str.injEq, W.bl.injEq, W.tup.injEq, W.lst.injEq, W.ref.injEq, List.cons.injEq, Option.map_some, exists_and_left, exists_and_right, exists_eq_left, exists_eq_left', exists_eq, exists_eq', exists_eq_right, exists_eq_right', and_true, true_and, and_assoc, reduceIte, reduceCtorEq, decide_true, decide_false, decide_eq_true_eq, decide_eq_false_iff_not, Bool.not_eq_true', Bool.not_eq_false', Bool.true_eq_false, Bool.false_eq_true, if_true, if_false, Bool.not_true, Bool.not_false, ite_true, ite_false, Int.cast_ofNat_Int, Int.reduceAdd, Int.reduceSub, Int.reduceEq, Int.reduceLT, Int.reduceLE, Int.natCast_add, Nat.reduceEqDiff, Nat.reduceAdd, Nat.add_zero, Nat.zero_add, Nat.succ_ne_zero, not_true_eq_false, not_false_eq_true, Option.getD_some, Option.getD_none, f_written_words, k_ARMS, dn, tl_times, sg_xx, BM.w, nx, fx]
    refine ⟨by decide, fun L hL => ?_⟩
    simp only [recv_mup, cls_ext, ext_mup, true_and]
    refine use_ww oa hm ca (by omega) ?_
    rw [ext_mup]
    refine ⟨szl (by simp only [List.length_append, List.length_map, List.length_cons, List.length_nil]; omega), ?_⟩
    simp only [recv_mup, cls_ext, true_and]
    refine use_ww ob hm cb (by omega) ?_
    rw [ext_mup]
    refine ⟨szl (by simp only [List.length_append, List.length_map, List.length_cons, List.length_nil]; omega), ?_⟩
    rw [frz_mup, mdel_mup hL]
    simpa [frzO, Bd.toks, numS] using q
  | iff a b c =>
    obtain ⟨oa, ca, ha, la⟩ := hT a (by simp [Bd.args])
    obtain ⟨ob, cb, hb, lb⟩ := hT b (by simp [Bd.args])
    obtain ⟨oc, cc, hc, lc⟩ := hT c (by simp [Bd.args])
    cases k with
    | zero => omega
    | succ k =>
    simp only [Bd.ws, st_written_words_3, st_written_words_2, st_written_words_1, st_written_words, dX, dXs, dXo, dXi, dSc, d2, d1, dN, dVar, dC, dTup, dLst, dTru, dB, dChain, dIte, dNotV, dNotT, dJoinV, dJoinT, dNil, dCons, dCall, dBM, dIsi, dIsi2, dAttr, dMeth, dNew, dDget, dDin, dDnew, dKidx, dKin, dKget, dDisp, dFrz, dSlice, dNoPart, dPart, dAsg, dExpr, dRet, dIf, dFld, dSet, dDput, dNever, dFor, dNext, binP, cmpP, iSeqD, iRg1, iRg2, iZip, iEnumD, Tg.asg, setAll, List.set, List.map_cons, List.map_nil, subW, modW, fdivW, powW, ltW, leW, gtW, geW, newL, finD, frzO, tupW, listW, oneW, twoW, BI.w, ints_eq, add_int, add_str, add_tup, add_lst, mul_int, mul_lst, idx_tup, idx_lst, idx_scr, idx_str, len_tup, len_lst, len_scr, len_str, sl_tup, sl_lst, neg_int, str_int, str_str, int_int, int_bl, is_non, is_int, is_str, is_tup, is_lst, is_bl, is_bb, eq_int, eq_str, eq_bl, ne_int, ne_str, ne_bl, eq_nilL, ty_non, ty_bl, ty_int, ty_str, ty_tup, ty_lst, ty_scr, ty_dk, Ty.sub, tr_bl, tr_non, tr_int, tr_str, sv_lst, sv_tup, sv_scr, lv_lst, at0, at1, at2, cut1, len0, ss_nil, for_nil, for_cons, pairs_cons, pairs_nil, pairs_nil', walk_lst, walk_scr, walk_tup, walk_str, walk_ref, List.getElem?_cons_zero, List.getElem?_cons_succ, List.length_cons, List.length_nil, List.append_nil, List.cons_append, List.nil_append, Option.some.injEq, W.int.injEq, W.str.injEq, W.bl.injEq, W.tup.injEq, W.lst.injEq, W.ref.injEq, List.cons.injEq, Option.map_some, exists_and_left, exists_and_right, exists_eq_left, exists_eq_left', exists_eq, exists_eq', exists_eq_right, exists_eq_right', and_true, true_and, and_assoc, reduceIte, reduceCtorEq, decide_true, decide_false, decide_eq_true_eq, decide_eq_false_iff_not, Bool.not_eq_true', Bool.not_eq_false', Bool.true_eq_false, Bool.false_eq_true, if_true, if_false, Bool.not_true, Bool.not_false, ite_true, ite_false, Int.cast_ofNat_Int, Int.reduceAdd, Int.reduceSub, Int.reduceEq, Int.reduceLT, Int.reduceLE, Int.natCast_add, Nat.reduceEqDiff, Nat.reduceAdd, Nat.add_zero, Nat.zero_add, Nat.succ_ne_zero, not_true_eq_false, not_false_eq_true, Option.getD_some, Option.getD_none, f_written_words, k_ARMS, dn, tl_if, sg_xxx, BM.w, nx, fx]
    refine ⟨by decide, fun L hL => ?_⟩
    simp only [recv_mup, cls_ext, ext_mup, true_and]
    refine use_ww oa hm ca (by omega) ?_
    rw [ext_mup]
    refine ⟨szl (by simp only [List.length_append, List.length_map, List.length_cons, List.length_nil]; omega), ?_⟩
    simp only [recv_mup, cls_ext, true_and]
    refine use_ww ob hm cb (by omega) ?_
    rw [ext_mup]
    refine ⟨szl (by simp only [List.length_append, List.length_map, List.length_cons, List.length_nil]; omega), ?_⟩
    simp only [recv_mup, cls_ext, true_and]
    refine use_ww oc hm cc (by omega) ?_
    rw [ext_mup]
    refine ⟨szl (by simp only [List.length_append, List.length_map, List.length_cons, List.length_nil]; omega), ?_⟩
    rw [frz_mup, mdel_mup hL]
    simpa [frzO, Bd.toks, numS] using q
  | thn a b =>
    obtain ⟨oa, ca, ha, la⟩ := hT a (by simp [Bd.args])
    obtain ⟨ob, cb, hb, lb⟩ := hT b (by simp [Bd.args])
    cases k with
    | zero => omega
    | succ k =>
    simp only [Bd.ws, st_written_words_3, st_written_words_2, st_written_words_1, st_written_words, dX, dXs, dXo, dXi, dSc, d2, d1, dN, dVar, dC, dTup, dLst, dTru, dB, dChain, dIte, dNotV, dNotT, dJoinV, dJoinT, dNil, dCons, dCall, dBM, dIsi, dIsi2, dAttr, dMeth, dNew, dDget, dDin, dDnew, dKidx, dKin, dKget, dDisp, dFrz, dSlice, dNoPart, dPart, dAsg, dExpr, dRet, dIf, dFld, dSet, dDput, dNever, dFor, dNext, binP, cmpP, iSeqD, iRg1, iRg2, iZip, iEnumD, Tg.asg, setAll, List.set, List.map_cons, List.map_nil, subW, modW, fdivW, powW, ltW, leW, gtW, geW, newL, finD, frzO, tupW, listW, oneW, twoW, BI.w, ints_eq, add_int, add_str, add_tup, add_lst, mul_int, mul_lst, idx_tup, idx_lst, idx_scr, idx_str, len_tup, len_lst, len_scr, len_str, sl_tup, sl_lst, neg_int, str_int, str_str, int_int, int_bl, is_non, is_int, is_str, is_tup, is_lst, is_bl, is_bb, eq_int, eq_str, eq_bl, ne_int, ne_str, ne_bl, eq_nilL, ty_non, ty_bl, ty_int, ty_str, ty_tup, ty_lst, ty_scr, ty_dk, Ty.sub, tr_bl, tr_non, tr_int, tr_str, sv_lst, sv_tup, sv_scr, lv_lst, at0, at1, at2, cut1, len0, ss_nil, for_nil, for_cons, pairs_cons, pairs_nil, pairs_nil', walk_lst, walk_scr, walk_tup, walk_str, walk_ref, List.getElem?_cons_zero, List.getElem?_cons_succ, List.length_cons, List.length_nil, List.append_nil, List.cons_append, List.nil_append, Option.some.injEq, W.int.injEq, W.str.injEq, W.bl.injEq, W.tup.injEq, W.lst.injEq, W.ref.injEq, List.cons.injEq, Option.map_some, exists_and_left, exists_and_right, exists_eq_left, exists_eq_left', exists_eq, exists_eq', exists_eq_right, exists_eq_right', and_true, true_and, and_assoc, reduceIte, reduceCtorEq, decide_true, decide_false, decide_eq_true_eq, decide_eq_false_iff_not, Bool.not_eq_true', Bool.not_eq_false', Bool.true_eq_false, Bool.false_eq_true, if_true, if_false, Bool.not_true, Bool.not_false, ite_true, ite_false, Int.cast_ofNat_Int, Int.reduceAdd, Int.reduceSub, Int.reduceEq, Int.reduceLT, Int.reduceLE, Int.natCast_add, Nat.reduceEqDiff, Nat.reduceAdd, Nat.add_zero, Nat.zero_add, Nat.succ_ne_zero, not_true_eq_false, not_false_eq_true, Option.getD_some, Option.getD_none, f_written_words, k_ARMS, dn, tl_then, sg_xx, BM.w, nx, fx]
    refine ⟨by decide, fun L hL => ?_⟩
    simp only [recv_mup, cls_ext, ext_mup, true_and]
    refine use_ww oa hm ca (by omega) ?_
    rw [ext_mup]
    refine ⟨szl (by simp only [List.length_append, List.length_map, List.length_cons, List.length_nil]; omega), ?_⟩
    simp only [recv_mup, cls_ext, true_and]
    refine use_ww ob hm cb (by omega) ?_
    rw [ext_mup]
    refine ⟨szl (by simp only [List.length_append, List.length_map, List.length_cons, List.length_nil]; omega), ?_⟩
    rw [frz_mup, mdel_mup hL]
    simpa [frzO, Bd.toks, numS] using q
  | say a =>
    obtain ⟨oa, ca, ha, la⟩ := hT a (by simp [Bd.args])
    cases k with
    | zero => omega
    | succ k =>
    simp only [Bd.ws, st_written_words_3, st_written_words_2, st_written_words_1, st_written_words, dX, dXs, dXo, dXi, dSc, d2, d1, dN, dVar, dC, dTup, dLst, dTru, dB, dChain, dIte, dNotV, dNotT, dJoinV, dJoinT, dNil, dCons, dCall, dBM, dIsi, dIsi2, dAttr, dMeth, dNew, dDget, dDin, dDnew, dKidx, dKin, dKget, dDisp, dFrz, dSlice, dNoPart, dPart, dAsg, dExpr, dRet, dIf, dFld, dSet, dDput, dNever, dFor, dNext, binP, cmpP, iSeqD, iRg1, iRg2, iZip, iEnumD, Tg.asg, setAll, List.set, List.map_cons, List.map_nil, subW, modW, fdivW, powW, ltW, leW, gtW, geW, newL, finD, frzO, tupW, listW, oneW, twoW, BI.w, ints_eq, add_int, add_str, add_tup, add_lst, mul_int, mul_lst, idx_tup, idx_lst, idx_scr, idx_str, len_tup, len_lst, len_scr, len_str, sl_tup, sl_lst, neg_int, str_int, str_str, int_int, int_bl, is_non, is_int, is_str, is_tup, is_lst, is_bl, is_bb, eq_int, eq_str, eq_bl, ne_int, ne_str, ne_bl, eq_nilL, ty_non, ty_bl, ty_int, ty_str, ty_tup, ty_lst, ty_scr, ty_dk, Ty.sub, tr_bl, tr_non, tr_int, tr_str, sv_lst, sv_tup, sv_scr, lv_lst, at0, at1, at2, cut1, len0, ss_nil, for_nil, for_cons, pairs_cons, pairs_nil, pairs_nil', walk_lst, walk_scr, walk_tup, walk_str, walk_ref, List.getElem?_cons_zero, List.getElem?_cons_succ, List.length_cons, List.length_nil, List.append_nil, List.cons_append, List.nil_append, Option.some.injEq, W.int.injEq, W.str.injEq, W.bl.injEq, W.tup.injEq, W.lst.injEq, W.ref.injEq, List.cons.injEq, Option.map_some, exists_and_left, exists_and_right, exists_eq_left, exists_eq_left', exists_eq, exists_eq', exists_eq_right, exists_eq_right', and_true, true_and, and_assoc, reduceIte, reduceCtorEq, decide_true, decide_false, decide_eq_true_eq, decide_eq_false_iff_not, Bool.not_eq_true', Bool.not_eq_false', Bool.true_eq_false, Bool.false_eq_true, if_true, if_false, Bool.not_true, Bool.not_false, ite_true, ite_false, Int.cast_ofNat_Int, Int.reduceAdd, Int.reduceSub, Int.reduceEq, Int.reduceLT, Int.reduceLE, Int.natCast_add, Nat.reduceEqDiff, Nat.reduceAdd, Nat.add_zero, Nat.zero_add, Nat.succ_ne_zero, not_true_eq_false, not_false_eq_true, Option.getD_some, Option.getD_none, f_written_words, k_ARMS, dn, tl_say, sg_x, BM.w, nx, fx]
    refine ⟨by decide, fun L hL => ?_⟩
    simp only [recv_mup, cls_ext, ext_mup, true_and]
    refine use_ww oa hm ca (by omega) ?_
    rw [ext_mup]
    refine ⟨szl (by simp only [List.length_append, List.length_map, List.length_cons, List.length_nil]; omega), ?_⟩
    rw [frz_mup, mdel_mup hL]
    simpa [frzO, Bd.toks, numS] using q
  | call f a =>
    obtain ⟨oa, ca, ha, la⟩ := hT a (by simp [Bd.args])
    cases k with
    | zero => omega
    | succ k =>
    simp only [Bd.ws, st_written_words_3, st_written_words_2, st_written_words_1, st_written_words, dX, dXs, dXo, dXi, dSc, d2, d1, dN, dVar, dC, dTup, dLst, dTru, dB, dChain, dIte, dNotV, dNotT, dJoinV, dJoinT, dNil, dCons, dCall, dBM, dIsi, dIsi2, dAttr, dMeth, dNew, dDget, dDin, dDnew, dKidx, dKin, dKget, dDisp, dFrz, dSlice, dNoPart, dPart, dAsg, dExpr, dRet, dIf, dFld, dSet, dDput, dNever, dFor, dNext, binP, cmpP, iSeqD, iRg1, iRg2, iZip, iEnumD, Tg.asg, setAll, List.set, List.map_cons, List.map_nil, subW, modW, fdivW, powW, ltW, leW, gtW, geW, newL, finD, frzO, tupW, listW, oneW, twoW, BI.w, ints_eq, add_int, add_str, add_tup, add_lst, mul_int, mul_lst, idx_tup, idx_lst, idx_scr, idx_str, len_tup, len_lst, len_scr, len_str, sl_tup, sl_lst, neg_int, str_int, str_str, int_int, int_bl, is_non, is_int, is_str, is_tup, is_lst, is_bl, is_bb, eq_int, eq_str, eq_bl, ne_int, ne_str, ne_bl, eq_nilL, ty_non, ty_bl, ty_int, ty_str, ty_tup, ty_lst, ty_scr, ty_dk, Ty.sub, tr_bl, tr_non, tr_int, tr_str, sv_lst, sv_tup, sv_scr, lv_lst, at0, at1, at2, cut1, len0, ss_nil, for_nil, for_cons, pairs_cons, pairs_nil, pairs_nil', walk_lst, walk_scr, walk_tup, walk_str, walk_ref, List.getElem?_cons_zero, List.getElem?_cons_succ, List.length_cons, List.length_nil, List.append_nil, List.cons_append, List.nil_append, Option.some.injEq, W.int.injEq, W.str.injEq, W.bl.injEq, W.tup.injEq, W.lst.injEq, W.ref.injEq, List.cons.injEq, Option.map_some, exists_and_left, exists_and_right, exists_eq_left, exists_eq_left', exists_eq, exists_eq', exists_eq_right, exists_eq_right', and_true, true_and, and_assoc, reduceIte, reduceCtorEq, decide_true, decide_false, decide_eq_true_eq, decide_eq_false_iff_not, Bool.not_eq_true', Bool.not_eq_false', Bool.true_eq_false, Bool.false_eq_true, if_true, if_false, Bool.not_true, Bool.not_false, ite_true, ite_false, Int.cast_ofNat_Int, Int.reduceAdd, Int.reduceSub, Int.reduceEq, Int.reduceLT, Int.reduceLE, Int.natCast_add, Nat.reduceEqDiff, Nat.reduceAdd, Nat.add_zero, Nat.zero_add, Nat.succ_ne_zero, not_true_eq_false, not_false_eq_true, Option.getD_some, Option.getD_none, f_written_words, k_ARMS, dn, tl_call, sg_fx, BM.w, nx, fx]
    refine ⟨by decide, fun L hL => ?_⟩
    simp only [recv_mup, cls_ext, ext_mup, true_and]
    refine ⟨log_num (by have h : f < m := ok.1; omega), by decide, ?_⟩
    refine ⟨szl (by simp), ?_⟩
    refine use_ww oa hm ca (by omega) ?_
    rw [ext_mup]
    refine ⟨szl (by simp only [List.length_append, List.length_map, List.length_cons, List.length_nil]; omega), ?_⟩
    rw [frz_mup, mdel_mup hL]
    simpa [frzO, Bd.toks, numS] using q
  | thr a b =>
    obtain ⟨oa, ca, ha, la⟩ := hT a (by simp [Bd.args])
    obtain ⟨ob, cb, hb, lb⟩ := hT b (by simp [Bd.args])
    cases k with
    | zero => omega
    | succ k =>
    simp only [Bd.ws, st_written_words_3, st_written_words_2, st_written_words_1, st_written_words, dX, dXs, dXo, dXi, dSc, d2, d1, dN, dVar, dC, dTup, dLst, dTru, dB, dChain, dIte, dNotV, dNotT, dJoinV, dJoinT, dNil, dCons, dCall, dBM, dIsi, dIsi2, dAttr, dMeth, dNew, dDget, dDin, dDnew, dKidx, dKin, dKget, dDisp, dFrz, dSlice, dNoPart, dPart, dAsg, dExpr, dRet, dIf, dFld, dSet, dDput, dNever, dFor, dNext, binP, cmpP, iSeqD, iRg1, iRg2, iZip, iEnumD, Tg.asg, setAll, List.set, List.map_cons, List.map_nil, subW, modW, fdivW, powW, ltW, leW, gtW, geW, newL, finD, frzO, tupW, listW, oneW, twoW, BI.w, ints_eq, add_int, add_str, add_tup, add_lst, mul_int, mul_lst, idx_tup, idx_lst, idx_scr, idx_str, len_tup, len_lst, len_scr, len_str, sl_tup, sl_lst, neg_int, str_int, str_str, int_int, int_bl, is_non, is_int, is_str, is_tup, is_lst, is_bl, is_bb, eq_int, eq_str, eq_bl, ne_int, ne_str, ne_bl, eq_nilL, ty_non, ty_bl, ty_int, ty_str, ty_tup, ty_lst, ty_scr, ty_dk, Ty.sub, tr_bl, tr_non, tr_int, tr_str, sv_lst, sv_tup, sv_scr, lv_lst, at0, at1, at2, cut1, len0, ss_nil, for_nil, for_cons, pairs_cons, pairs_nil, pairs_nil', walk_lst, walk_scr, walk_tup, walk_str, walk_ref, List.getElem?_cons_zero, List.getElem?_cons_succ, List.length_cons, List.length_nil, List.append_nil, List.cons_append, List.nil_append, Option.some.injEq, W.int.injEq, W.str.injEq, W.bl.injEq, W.tup.injEq, W.lst.injEq, W.ref.injEq, List.cons.injEq, Option.map_some, exists_and_left, exists_and_right, exists_eq_left, exists_eq_left', exists_eq, exists_eq', exists_eq_right, exists_eq_right', and_true, true_and, and_assoc, reduceIte, reduceCtorEq, decide_true, decide_false, decide_eq_true_eq, decide_eq_false_iff_not, Bool.not_eq_true', Bool.not_eq_false', Bool.true_eq_false, Bool.false_eq_true, if_true, if_false, Bool.not_true, Bool.not_false, ite_true, ite_false, Int.cast_ofNat_Int, Int.reduceAdd, Int.reduceSub, Int.reduceEq, Int.reduceLT, Int.reduceLE, Int.natCast_add, Nat.reduceEqDiff, Nat.reduceAdd, Nat.add_zero, Nat.zero_add, Nat.succ_ne_zero, not_true_eq_false, not_false_eq_true, Option.getD_some, Option.getD_none, f_written_words, k_ARMS, dn, tl_through, sg_xx, BM.w, nx, fx]
    refine ⟨by decide, fun L hL => ?_⟩
    simp only [recv_mup, cls_ext, ext_mup, true_and]
    refine use_ww oa hm ca (by omega) ?_
    rw [ext_mup]
    refine ⟨szl (by simp only [List.length_append, List.length_map, List.length_cons, List.length_nil]; omega), ?_⟩
    simp only [recv_mup, cls_ext, true_and]
    refine use_ww ob hm cb (by omega) ?_
    rw [ext_mup]
    refine ⟨szl (by simp only [List.length_append, List.length_map, List.length_cons, List.length_nil]; omega), ?_⟩
    rw [frz_mup, mdel_mup hL]
    simpa [frzO, Bd.toks, numS] using q
def lineT (f : Nat × Bd) : List Str := numS f.1 :: f.2.toks
def lineS (f : Nat × Bd) : Str := Txt.join " " (lineT f)
def progT (p : List (Nat × Bd)) : Str := Txt.join "\n" (p.map lineS)
theorem lineS_eq (f : Nat × Bd) : lineS f = numS f.1 ++ " " ++ f.2.text := by
  unfold lineS lineT Bd.text
  rw [join_cons _ _ (Bd.toks_ne _), app_assoc]
theorem line_size {m : Nat} {f : Nat × Bd} (hm : m ≤ 99) (ok : FOk m f) : ((lineT f).map (·.length)).sum + (lineT f).length ≤ 500 := by
  have h := f.2.size hm ok.ok
  have h1 := ok.cnt
  have h2 := len_num (n := f.1) (by have := ok.s8; omega)
  unfold lineT
  rw [List.map_cons, List.sum_cons, List.length_cons]
  omega
theorem line_len {m : Nat} {f : Nat × Bd} (hm : m ≤ 99) (ok : FOk m f) : (lineS f).length ≤ 500 := by
  have := line_size hm ok
  have := join_len " " (lineT f)
  rw [sp1] at this
  unfold lineS
  omega
theorem sum_le {c : Nat} : ∀ {l : List Nat}, (∀ x ∈ l, x ≤ c) → l.sum ≤ l.length * c
  | [], _ => by simp
  | x :: l, h => by
    have h1 := h x (by simp)
    have h2 := sum_le fun y hy => h y (List.mem_cons_of_mem x hy)
    rw [List.sum_cons, List.length_cons, Nat.add_mul, Nat.one_mul]
    omega
theorem nl1 : Str.length "\n" = 1 := rfl
theorem prog_size {p : List (Nat × Bd)} (ok : PrOk p) : ((p.map lineS).map (·.length)).sum + (p.map lineS).length * 1 ≤ 5000 := by
  have h8 := ok.l8
  have h := sum_le (c := 500) (l := (p.map lineS).map (·.length)) fun x hx => by
    obtain ⟨y, hy, rfl⟩ := List.mem_map.mp hx
    obtain ⟨f, hf, rfl⟩ := List.mem_map.mp hy
    exact line_len (by omega) (ok.ok f hf)
  rw [List.length_map, List.length_map] at h
  rw [List.length_map]
  have : p.length * 500 ≤ 8 * 500 := Nat.mul_le_mul_right _ h8
  omega
theorem prog_len {p : List (Nat × Bd)} (ok : PrOk p) : (progT p).length ≤ 5000 := by
  have := prog_size ok
  have := join_len "\n" (p.map lineS)
  rw [nl1] at this
  unfold progT
  omega
theorem fm_some {α : Type} {g h : α → W} : ∀ {l : List α}, (l.map fun f => (g f, some (h f))).filterMap (·.2) = l.map h
  | [] => rfl
  | f :: l => by rw [List.map_cons, List.filterMap_cons]; exact congrArg _ fm_some
def sp_written : Nat → Wp := fun k ws M Q _ => ∃ p : List (Nat × Bd), ws = [encP p] ∧ PrOk p ∧ 10 ≤ k ∧ Q (.str (progT p)) M
theorem keep_written {Γ : Gam} {k : Nat} (f_need_program : Γ.fn 3 = dn sp_need_program k) (f_written_words : Γ.fn 30 = dn sp_written_words k) : KeepC Γ n_written 1 c_written (sp_written k) := by
  rintro ws M Q Ex ⟨p, rfl, ok, hk, q⟩
  refine ⟨rfl, ?_⟩
  show dSs Γ _ _ [some (encP p), none, none] M
  cases k with
  | zero => omega
  | succ k =>
  simp only [st_written, dX, dXs, dXo, dXi, dSc, d2, d1, dN, dVar, dC, dTup, dLst, dTru, dB, dChain, dIte, dNotV, dNotT, dJoinV, dJoinT, dNil, dCons, dCall, dBM, dIsi, dIsi2, dAttr, dMeth, dNew, dDget, dDin, dDnew, dKidx, dKin, dKget, dDisp, dFrz, dSlice, dNoPart, dPart, dAsg, dExpr, dRet, dIf, dFld, dSet, dDput, dNever, dFor, dNext, binP, cmpP, iSeqD, iRg1, iRg2, iZip, iEnumD, Tg.asg, setAll, List.set, List.map_cons, List.map_nil, subW, modW, fdivW, powW, ltW, leW, gtW, geW, newL, finD, frzO, tupW, listW, oneW, twoW, BI.w, ints_eq, add_int, add_str, add_tup, add_lst, mul_int, mul_lst, idx_tup, idx_lst, idx_scr, idx_str, len_tup, len_lst, len_scr, len_str, sl_tup, sl_lst, neg_int, str_int, str_str, int_int, int_bl, is_non, is_int, is_str, is_tup, is_lst, is_bl, is_bb, eq_int, eq_str, eq_bl, ne_int, ne_str, ne_bl, eq_nilL, ty_non, ty_bl, ty_int, ty_str, ty_tup, ty_lst, ty_scr, ty_dk, Ty.sub, tr_bl, tr_non, tr_int, tr_str, sv_lst, sv_tup, sv_scr, lv_lst, at0, at1, at2, cut1, len0, ss_nil, for_nil, for_cons, pairs_cons, pairs_nil, pairs_nil', walk_lst, walk_scr, walk_tup, walk_str, walk_ref, List.getElem?_cons_zero, List.getElem?_cons_succ, List.length_cons, List.length_nil, List.append_nil, List.cons_append, List.nil_append, Option.some.injEq, W.int.injEq, W.str.injEq, W.bl.injEq, W.tup.injEq, W.lst.injEq, W.ref.injEq, List.cons.injEq, Option.map_some, exists_and_left, exists_and_right, exists_eq_left, exists_eq_left', exists_eq, exists_eq', exists_eq_right, exists_eq_right', and_true, true_and, and_assoc, reduceIte, reduceCtorEq, decide_true, decide_false, decide_eq_true_eq, decide_eq_false_iff_not, Bool.not_eq_true', Bool.not_eq_false', Bool.true_eq_false, Bool.false_eq_true, if_true, if_false, Bool.not_true, Bool.not_false, ite_true, ite_false, Int.cast_ofNat_Int, Int.reduceAdd, Int.reduceSub, Int.reduceEq, Int.reduceLT, Int.reduceLE, Int.natCast_add, Nat.reduceEqDiff, Nat.reduceAdd, Nat.add_zero, Nat.zero_add, Nat.succ_ne_zero, not_true_eq_false, not_false_eq_true, Option.getD_some, Option.getD_none, f_need_program, f_written_words, dn]
  refine ⟨p, rfl, ok, by omega, ?_⟩
  simp only [st_written_1, encP, dLc, wipeW, BM.recv, BM.w, dX, dXs, dXo, dXi, dSc, d2, d1, dN, dVar, dC, dTup, dLst, dTru, dB, dChain, dIte, dNotV, dNotT, dJoinV, dJoinT, dNil, dCons, dCall, dBM, dIsi, dIsi2, dAttr, dMeth, dNew, dDget, dDin, dDnew, dKidx, dKin, dKget, dDisp, dFrz, dSlice, dNoPart, dPart, dAsg, dExpr, dRet, dIf, dFld, dSet, dDput, dNever, dFor, dNext, binP, cmpP, iSeqD, iRg1, iRg2, iZip, iEnumD, Tg.asg, setAll, List.set, List.map_cons, List.map_nil, subW, modW, fdivW, powW, ltW, leW, gtW, geW, newL, finD, frzO, tupW, listW, oneW, twoW, BI.w, ints_eq, add_int, add_str, add_tup, add_lst, mul_int, mul_lst, idx_tup, idx_lst, idx_scr, idx_str, len_tup, len_lst, len_scr, len_str, sl_tup, sl_lst, neg_int, str_int, str_str, int_int, int_bl, is_non, is_int, is_str, is_tup, is_lst, is_bl, is_bb, eq_int, eq_str, eq_bl, ne_int, ne_str, ne_bl, eq_nilL, ty_non, ty_bl, ty_int, ty_str, ty_tup, ty_lst, ty_scr, ty_dk, Ty.sub, tr_bl, tr_non, tr_int, tr_str, sv_lst, sv_tup, sv_scr, lv_lst, at0, at1, at2, cut1, len0, ss_nil, for_nil, for_cons, pairs_cons, pairs_nil, pairs_nil', walk_lst, walk_scr, walk_tup, walk_str, walk_ref, List.getElem?_cons_zero, List.getElem?_cons_succ, List.length_cons, List.length_nil, List.append_nil, List.cons_append, List.nil_append, Option.some.injEq, W.int.injEq, W.str.injEq, W.bl.injEq, W.tup.injEq, W.lst.injEq, W.ref.injEq, List.cons.injEq, Option.map_some, exists_and_left, exists_and_right, exists_eq_left, exists_eq_left', exists_eq, exists_eq', exists_eq_right, exists_eq_right', and_true, true_and, and_assoc, reduceIte, reduceCtorEq, decide_true, decide_false, decide_eq_true_eq, decide_eq_false_iff_not, Bool.not_eq_true', Bool.not_eq_false', Bool.true_eq_false, Bool.false_eq_true, if_true, if_false, Bool.not_true, Bool.not_false, ite_true, ite_false, Int.cast_ofNat_Int, Int.reduceAdd, Int.reduceSub, Int.reduceEq, Int.reduceLT, Int.reduceLE, Int.natCast_add, Nat.reduceEqDiff, Nat.reduceAdd, Nat.add_zero, Nat.zero_add, Nat.succ_ne_zero, not_true_eq_false, not_false_eq_true, Option.getD_some, Option.getD_none, f_need_program, f_written_words, dn, List.length_map]
  refine ⟨rfl, szl (by have := ok.l8; omega), lc_of (p.map fun f => (encF f, some (.str (lineS f)))) (by simp [Function.comp]) (fun _ _ _ => trivial) (fun D hD pr hp us => ?_) ?_⟩
  · obtain ⟨f, hf, rfl⟩ := List.mem_map.mp hp
    have fo := ok.ok f hf
    refine ⟨_, rfl, fun R h => h, fun y hy R h => ?_⟩
    cases hy
    simp only [dAsg, dX, dXs, dXo, dXi, dSc, d2, d1, dN, dVar, dC, dTup, dLst, dTru, dB, dChain, dIte, dNotV, dNotT, dJoinV, dJoinT, dNil, dCons, dCall, dBM, dIsi, dIsi2, dAttr, dMeth, dNew, dDget, dDin, dDnew, dKidx, dKin, dKget, dDisp, dFrz, dSlice, dNoPart, dPart, dAsg, dExpr, dRet, dIf, dFld, dSet, dDput, dNever, dFor, dNext, binP, cmpP, iSeqD, iRg1, iRg2, iZip, iEnumD, Tg.asg, setAll, List.set, List.map_cons, List.map_nil, subW, modW, fdivW, powW, ltW, leW, gtW, geW, newL, finD, frzO, tupW, listW, oneW, twoW, BI.w, ints_eq, add_int, add_str, add_tup, add_lst, mul_int, mul_lst, idx_tup, idx_lst, idx_scr, idx_str, len_tup, len_lst, len_scr, len_str, sl_tup, sl_lst, neg_int, str_int, str_str, int_int, int_bl, is_non, is_int, is_str, is_tup, is_lst, is_bl, is_bb, eq_int, eq_str, eq_bl, ne_int, ne_str, ne_bl, eq_nilL, ty_non, ty_bl, ty_int, ty_str, ty_tup, ty_lst, ty_scr, ty_dk, Ty.sub, tr_bl, tr_non, tr_int, tr_str, sv_lst, sv_tup, sv_scr, lv_lst, at0, at1, at2, cut1, len0, ss_nil, for_nil, for_cons, pairs_cons, pairs_nil, pairs_nil', walk_lst, walk_scr, walk_tup, walk_str, walk_ref, List.getElem?_cons_zero, List.getElem?_cons_succ, List.length_cons, List.length_nil, List.append_nil, List.cons_append, List.nil_append, Option.some.injEq, W.int.injEq, W.str.injEq, W.bl.injEq, W.tup.injEq, W.lst.injEq, W.ref.injEq, List.cons.injEq, Option.map_some, exists_and_left, exists_and_right, exists_eq_left, exists_eq_left', exists_eq, exists_eq', exists_eq_right, exists_eq_right', and_true, true_and, and_assoc, reduceIte, reduceCtorEq, decide_true, decide_false, decide_eq_true_eq, decide_eq_false_iff_not, Bool.not_eq_true', Bool.not_eq_false', Bool.true_eq_false, Bool.false_eq_true, if_true, if_false, Bool.not_true, Bool.not_false, ite_true, ite_false, Int.cast_ofNat_Int, Int.reduceAdd, Int.reduceSub, Int.reduceEq, Int.reduceLT, Int.reduceLE, Int.natCast_add, Nat.reduceEqDiff, Nat.reduceAdd, Nat.add_zero, Nat.zero_add, Nat.succ_ne_zero, not_true_eq_false, not_false_eq_true, Option.getD_some, Option.getD_none, f_need_program, f_written_words, dn, BM.recv, BM.w]
    refine ⟨rfl, log_num (by have := fo.s8; omega), by decide, use_ww fo.ok (by have := ok.l8; omega) (by have := fo.cnt; omega) (by have := fo.ht; omega) ?_⟩
    simp only [dX, dXs, dXo, dXi, dSc, d2, d1, dN, dVar, dC, dTup, dLst, dTru, dB, dChain, dIte, dNotV, dNotT, dJoinV, dJoinT, dNil, dCons, dCall, dBM, dIsi, dIsi2, dAttr, dMeth, dNew, dDget, dDin, dDnew, dKidx, dKin, dKget, dDisp, dFrz, dSlice, dNoPart, dPart, dAsg, dExpr, dRet, dIf, dFld, dSet, dDput, dNever, dFor, dNext, binP, cmpP, iSeqD, iRg1, iRg2, iZip, iEnumD, Tg.asg, setAll, List.set, List.map_cons, List.map_nil, subW, modW, fdivW, powW, ltW, leW, gtW, geW, newL, finD, frzO, tupW, listW, oneW, twoW, BI.w, ints_eq, add_int, add_str, add_tup, add_lst, mul_int, mul_lst, idx_tup, idx_lst, idx_scr, idx_str, len_tup, len_lst, len_scr, len_str, sl_tup, sl_lst, neg_int, str_int, str_str, int_int, int_bl, is_non, is_int, is_str, is_tup, is_lst, is_bl, is_bb, eq_int, eq_str, eq_bl, ne_int, ne_str, ne_bl, eq_nilL, ty_non, ty_bl, ty_int, ty_str, ty_tup, ty_lst, ty_scr, ty_dk, Ty.sub, tr_bl, tr_non, tr_int, tr_str, sv_lst, sv_tup, sv_scr, lv_lst, at0, at1, at2, cut1, len0, ss_nil, for_nil, for_cons, pairs_cons, pairs_nil, pairs_nil', walk_lst, walk_scr, walk_tup, walk_str, walk_ref, List.getElem?_cons_zero, List.getElem?_cons_succ, List.length_cons, List.length_nil, List.append_nil, List.cons_append, List.nil_append, Option.some.injEq, W.int.injEq, W.str.injEq, W.bl.injEq, W.tup.injEq, W.lst.injEq, W.ref.injEq, List.cons.injEq, Option.map_some, exists_and_left, exists_and_right, exists_eq_left, exists_eq_left', exists_eq, exists_eq', exists_eq_right, exists_eq_right', and_true, true_and, and_assoc, reduceIte, reduceCtorEq, decide_true, decide_false, decide_eq_true_eq, decide_eq_false_iff_not, Bool.not_eq_true', Bool.not_eq_false', Bool.true_eq_false, Bool.false_eq_true, if_true, if_false, Bool.not_true, Bool.not_false, ite_true, ite_false, Int.cast_ofNat_Int, Int.reduceAdd, Int.reduceSub, Int.reduceEq, Int.reduceLT, Int.reduceLE, Int.natCast_add, Nat.reduceEqDiff, Nat.reduceAdd, Nat.add_zero, Nat.zero_add, Nat.succ_ne_zero, not_true_eq_false, not_false_eq_true, Option.getD_some, Option.getD_none]
    refine ⟨szl (by have := (f.2.size (by have := ok.l8; omega) fo.ok).2; have := fo.cnt; rw [List.length_map]; omega), lineT f, rfl, ?_, h⟩
    have := line_size (by have := ok.l8; omega) fo
    rw [sp1]
    omega
  · refine ⟨p.map lineS, ?_, ?_, q⟩
    · rw [sv_lst, fm_some, List.map_map]; rfl
    · have := prog_size ok
      rw [nl1]
      omega
def c_Reader_ini_2 : Ss := .cons (.fld (.var 0) "at" (.lit (.int 0))) .nil
theorem st_Reader_ini_2 {Γ : Gam} {D : Dw} {σ : Sw} {M : Mh} : dSs Γ c_Reader_ini_2 D σ M = dSc Γ (.fld (.var 0) "at" (.lit (.int 0))) { D with nx := dSs Γ .nil D } σ M := rfl
def c_Reader_ini_1 : Ss := .cons (.fld (.var 0) "words" (.var 2)) c_Reader_ini_2
theorem st_Reader_ini_1 {Γ : Gam} {D : Dw} {σ : Sw} {M : Mh} : dSs Γ c_Reader_ini_1 D σ M = dSc Γ (.fld (.var 0) "words" (.var 2)) { D with nx := dSs Γ c_Reader_ini_2 D } σ M := rfl
def c_Reader_ini : Ss := .cons (.fld (.var 0) "row" (.var 1)) c_Reader_ini_1
theorem st_Reader_ini {Γ : Gam} {D : Dw} {σ : Sw} {M : Mh} : dSs Γ c_Reader_ini D σ M = dSc Γ (.fld (.var 0) "row" (.var 1)) { D with nx := dSs Γ c_Reader_ini_1 D } σ M := rfl
def n_Reader_ini : List Str := ["self", "row", "words"]
def c_Reader_taken_3 : Ss := .cons .never .nil
theorem st_Reader_taken_3 {Γ : Gam} {D : Dw} {σ : Sw} {M : Mh} : dSs Γ c_Reader_taken_3 D σ M = dSc Γ .never { D with nx := dSs Γ .nil D } σ M := rfl
def c_Reader_taken_2 : Ss := .cons (.ret (.idx (.attr (.var 0) "words") (.bin .Sub false (.attr (.var 0) "at") (.lit (.int 1))))) .nil
theorem st_Reader_taken_2 {Γ : Gam} {D : Dw} {σ : Sw} {M : Mh} : dSs Γ c_Reader_taken_2 D σ M = dSc Γ (.ret (.idx (.attr (.var 0) "words") (.bin .Sub false (.attr (.var 0) "at") (.lit (.int 1))))) { D with nx := dSs Γ .nil D } σ M := rfl
def c_Reader_taken_1 : Ss := .cons (.fld (.var 0) "at" (.bin .Add false (.attr (.var 0) "at") (.lit (.int 1)))) c_Reader_taken_2
theorem st_Reader_taken_1 {Γ : Gam} {D : Dw} {σ : Sw} {M : Mh} : dSs Γ c_Reader_taken_1 D σ M = dSc Γ (.fld (.var 0) "at" (.bin .Add false (.attr (.var 0) "at") (.lit (.int 1)))) { D with nx := dSs Γ c_Reader_taken_2 D } σ M := rfl
def c_Reader_taken : Ss := .cons (.ite (.cmp .GtE (.attr (.var 0) "at") (.blt false .len (.cons (.attr (.var 0) "words") .nil))) c_Reader_taken_3 .nil) c_Reader_taken_1
theorem st_Reader_taken {Γ : Gam} {D : Dw} {σ : Sw} {M : Mh} : dSs Γ c_Reader_taken D σ M = dSc Γ (.ite (.cmp .GtE (.attr (.var 0) "at") (.blt false .len (.cons (.attr (.var 0) "words") .nil))) c_Reader_taken_3 .nil) { D with nx := dSs Γ c_Reader_taken_1 D } σ M := rfl
def n_Reader_taken : List Str := ["self"]
def c_Reader_number_4 : Ss := .cons .never .nil
theorem st_Reader_number_4 {Γ : Gam} {D : Dw} {σ : Sw} {M : Mh} : dSs Γ c_Reader_number_4 D σ M = dSc Γ .never { D with nx := dSs Γ .nil D } σ M := rfl
def c_Reader_number_3 : Ss := .cons (.ret (.blt false .int (.cons (.var 1) .nil))) .nil
theorem st_Reader_number_3 {Γ : Gam} {D : Dw} {σ : Sw} {M : Mh} : dSs Γ c_Reader_number_3 D σ M = dSc Γ (.ret (.blt false .int (.cons (.var 1) .nil))) { D with nx := dSs Γ .nil D } σ M := rfl
def c_Reader_number_2 : Ss := .cons (.ite (.bool false (.cons (.not (.var 2)) (.cons (.bool true (.cons (.cmp .Eq (.idx (.var 1) (.lit (.int 0))) (.lit (.str "0"))) (.cons (.cmp .NotEq (.var 1) (.lit (.str "0"))) .nil))) .nil))) c_Reader_number_4 .nil) c_Reader_number_3
theorem st_Reader_number_2 {Γ : Gam} {D : Dw} {σ : Sw} {M : Mh} : dSs Γ c_Reader_number_2 D σ M = dSc Γ (.ite (.bool false (.cons (.not (.var 2)) (.cons (.bool true (.cons (.cmp .Eq (.idx (.var 1) (.lit (.int 0))) (.lit (.str "0"))) (.cons (.cmp .NotEq (.var 1) (.lit (.str "0"))) .nil))) .nil))) c_Reader_number_4 .nil) { D with nx := dSs Γ c_Reader_number_3 D } σ M := rfl
def c_Reader_number_1 : Ss := .cons (.asg (.name 2) (.bool true (.cons (.chain .LtE .LtE (.lit (.int 1)) (.blt false .len (.cons (.var 1) .nil)) (.glob 4)) (.cons (.cmp .Eq (.lc false (.var 3) (.name 3) (.seq (.var 1)) (.some (.cmp .NotIn (.var 3) (.glob 0))) [("sign", 3)]) (.lst false .nil)) .nil)))) c_Reader_number_2
theorem st_Reader_number_1 {Γ : Gam} {D : Dw} {σ : Sw} {M : Mh} : dSs Γ c_Reader_number_1 D σ M = dSc Γ (.asg (.name 2) (.bool true (.cons (.chain .LtE .LtE (.lit (.int 1)) (.blt false .len (.cons (.var 1) .nil)) (.glob 4)) (.cons (.cmp .Eq (.lc false (.var 3) (.name 3) (.seq (.var 1)) (.some (.cmp .NotIn (.var 3) (.glob 0))) [("sign", 3)]) (.lst false .nil)) .nil)))) { D with nx := dSs Γ c_Reader_number_2 D } σ M := rfl
def c_Reader_number : Ss := .cons (.asg (.name 1) (.meth 19 (.var 0) .nil)) c_Reader_number_1
theorem st_Reader_number {Γ : Gam} {D : Dw} {σ : Sw} {M : Mh} : dSs Γ c_Reader_number D σ M = dSc Γ (.asg (.name 1) (.meth 19 (.var 0) .nil)) { D with nx := dSs Γ c_Reader_number_1 D } σ M := rfl
def n_Reader_number : List Str := ["self", "word", "good", "sign"]
def c_Reader_body_5 : Ss := .cons .never .nil
theorem st_Reader_body_5 {Γ : Gam} {D : Dw} {σ : Sw} {M : Mh} : dSs Γ c_Reader_body_5 D σ M = dSc Γ .never { D with nx := dSs Γ .nil D } σ M := rfl
def c_Reader_body_6 : Ss := .cons (.expr (.bm false .append (.var 2) (.cons (.ite (.cmp .Eq (.var 3) (.lit (.str "x"))) (.meth 21 (.var 0) .nil) (.meth 20 (.var 0) .nil)) .nil))) .nil
theorem st_Reader_body_6 {Γ : Gam} {D : Dw} {σ : Sw} {M : Mh} : dSs Γ c_Reader_body_6 D σ M = dSc Γ (.expr (.bm false .append (.var 2) (.cons (.ite (.cmp .Eq (.var 3) (.lit (.str "x"))) (.meth 21 (.var 0) .nil) (.meth 20 (.var 0) .nil)) .nil))) { D with nx := dSs Γ .nil D } σ M := rfl
def c_Reader_body_4 : Ss := .cons (.ret (.blt false .tup (.cons (.var 2) .nil))) .nil
theorem st_Reader_body_4 {Γ : Gam} {D : Dw} {σ : Sw} {M : Mh} : dSs Γ c_Reader_body_4 D σ M = dSc Γ (.ret (.blt false .tup (.cons (.var 2) .nil))) { D with nx := dSs Γ .nil D } σ M := rfl
def c_Reader_body_3 : Ss := .cons (.for_ (.name 3) (.seq (.kidx 0 (.var 1))) c_Reader_body_6) c_Reader_body_4
theorem st_Reader_body_3 {Γ : Gam} {D : Dw} {σ : Sw} {M : Mh} : dSs Γ c_Reader_body_3 D σ M = dSc Γ (.for_ (.name 3) (.seq (.kidx 0 (.var 1))) c_Reader_body_6) { D with nx := dSs Γ c_Reader_body_4 D } σ M := rfl
def c_Reader_body_2 : Ss := .cons (.asg (.name 2) (.lst true (.cons (.var 1) .nil))) c_Reader_body_3
theorem st_Reader_body_2 {Γ : Gam} {D : Dw} {σ : Sw} {M : Mh} : dSs Γ c_Reader_body_2 D σ M = dSc Γ (.asg (.name 2) (.lst true (.cons (.var 1) .nil))) { D with nx := dSs Γ c_Reader_body_3 D } σ M := rfl
def c_Reader_body_1 : Ss := .cons (.ite (.kin true 0 (.var 1)) c_Reader_body_5 .nil) c_Reader_body_2
theorem st_Reader_body_1 {Γ : Gam} {D : Dw} {σ : Sw} {M : Mh} : dSs Γ c_Reader_body_1 D σ M = dSc Γ (.ite (.kin true 0 (.var 1)) c_Reader_body_5 .nil) { D with nx := dSs Γ c_Reader_body_2 D } σ M := rfl
def c_Reader_body : Ss := .cons (.asg (.name 1) (.meth 19 (.var 0) .nil)) c_Reader_body_1
theorem st_Reader_body {Γ : Gam} {D : Dw} {σ : Sw} {M : Mh} : dSs Γ c_Reader_body D σ M = dSc Γ (.asg (.name 1) (.meth 19 (.var 0) .nil)) { D with nx := dSs Γ c_Reader_body_1 D } σ M := rfl
def n_Reader_body : List Str := ["self", "word", "found", "sort"]
def c_Reader_a_function_3 : Ss := .cons .never .nil
theorem st_Reader_a_function_3 {Γ : Gam} {D : Dw} {σ : Sw} {M : Mh} : dSs Γ c_Reader_a_function_3 D σ M = dSc Γ .never { D with nx := dSs Γ .nil D } σ M := rfl
def c_Reader_a_function_2 : Ss := .cons (.ret (.var 1)) .nil
theorem st_Reader_a_function_2 {Γ : Gam} {D : Dw} {σ : Sw} {M : Mh} : dSs Γ c_Reader_a_function_2 D σ M = dSc Γ (.ret (.var 1)) { D with nx := dSs Γ .nil D } σ M := rfl
def c_Reader_a_function_1 : Ss := .cons (.ite (.cmp .Lt (.attr (.var 0) "at") (.blt false .len (.cons (.attr (.var 0) "words") .nil))) c_Reader_a_function_3 .nil) c_Reader_a_function_2
theorem st_Reader_a_function_1 {Γ : Gam} {D : Dw} {σ : Sw} {M : Mh} : dSs Γ c_Reader_a_function_1 D σ M = dSc Γ (.ite (.cmp .Lt (.attr (.var 0) "at") (.blt false .len (.cons (.attr (.var 0) "words") .nil))) c_Reader_a_function_3 .nil) { D with nx := dSs Γ c_Reader_a_function_2 D } σ M := rfl
def c_Reader_a_function : Ss := .cons (.asg (.name 1) (.tup (.cons (.meth 20 (.var 0) .nil) (.cons (.meth 21 (.var 0) .nil) .nil)))) c_Reader_a_function_1
theorem st_Reader_a_function {Γ : Gam} {D : Dw} {σ : Sw} {M : Mh} : dSs Γ c_Reader_a_function D σ M = dSc Γ (.asg (.name 1) (.tup (.cons (.meth 20 (.var 0) .nil) (.cons (.meth 21 (.var 0) .nil) .nil)))) { D with nx := dSs Γ c_Reader_a_function_1 D } σ M := rfl
def n_Reader_a_function : List Str := ["self", "found"]
def c_read_4 : Ss := .cons (.expr (.bm false .append (.var 1) (.cons (.meth 22 (.new true 22 (.cons (.var 2) (.cons (.bm false .split (.var 3) (.cons (.lit (.str " ")) .nil)) .nil))) .nil) .nil))) .nil
theorem st_read_4 {Γ : Gam} {D : Dw} {σ : Sw} {M : Mh} : dSs Γ c_read_4 D σ M = dSc Γ (.expr (.bm false .append (.var 1) (.cons (.meth 22 (.new true 22 (.cons (.var 2) (.cons (.bm false .split (.var 3) (.cons (.lit (.str " ")) .nil)) .nil))) .nil) .nil))) { D with nx := dSs Γ .nil D } σ M := rfl
def c_read_3 : Ss := .cons (.ret (.blt false .tup (.cons (.var 1) .nil))) .nil
theorem st_read_3 {Γ : Gam} {D : Dw} {σ : Sw} {M : Mh} : dSs Γ c_read_3 D σ M = dSc Γ (.ret (.blt false .tup (.cons (.var 1) .nil))) { D with nx := dSs Γ .nil D } σ M := rfl
def c_read_2 : Ss := .cons (.expr (.call 3 (.cons (.blt false .tup (.cons (.var 1) .nil)) .nil))) c_read_3
theorem st_read_2 {Γ : Gam} {D : Dw} {σ : Sw} {M : Mh} : dSs Γ c_read_2 D σ M = dSc Γ (.expr (.call 3 (.cons (.blt false .tup (.cons (.var 1) .nil)) .nil))) { D with nx := dSs Γ c_read_3 D } σ M := rfl
def c_read_1 : Ss := .cons (.for_ (.tup [2, 3]) (.enum (.bm false .split (.var 0) (.cons (.lit (.str "\n")) .nil))) c_read_4) c_read_2
theorem st_read_1 {Γ : Gam} {D : Dw} {σ : Sw} {M : Mh} : dSs Γ c_read_1 D σ M = dSc Γ (.for_ (.tup [2, 3]) (.enum (.bm false .split (.var 0) (.cons (.lit (.str "\n")) .nil))) c_read_4) { D with nx := dSs Γ c_read_2 D } σ M := rfl
def c_read : Ss := .cons (.asg (.name 1) (.lst true .nil)) c_read_1
theorem st_read {Γ : Gam} {D : Dw} {σ : Sw} {M : Mh} : dSs Γ c_read D σ M = dSc Γ (.asg (.name 1) (.lst true .nil)) { D with nx := dSs Γ c_read_1 D } σ M := rfl
def n_read : List Str := ["text", "found", "row", "line"]
def Rd (x : Addr) (row : Int) (toks : List Str) (i : Nat) (M : Mh) : Prop := M x = some (.ins 22 [("row", .int row), ("words", .lst (toks.map W.str)), ("at", .int i)])
def Fx1 (x : Addr) (M M' : Mh) : Prop := ∀ b o, M b = some o → b ≠ x → M' b = some o
theorem Fx1.refl {x : Addr} {M : Mh} : Fx1 x M M := fun _ _ h _ => h
theorem Fx1.trans {x : Addr} {M M' M'' : Mh} (h : Fx1 x M M') (h' : Fx1 x M' M'') : Fx1 x M M'' := fun b o hb h1 => h' b o (h b o hb h1) h1
theorem fld_words {x : Addr} {row : Int} {toks : List Str} {i : Nat} {M : Mh} (h : Rd x row toks i M) : fldW M (.ref x) "words" = some (.lst (toks.map W.str)) := by
  unfold Rd at h
  simp only [fldW, h]
  rfl
theorem fld_at {x : Addr} {row : Int} {toks : List Str} {i : Nat} {M : Mh} (h : Rd x row toks i M) : fldW M (.ref x) "at" = some (.int i) := by
  unfold Rd at h
  simp only [fldW, h]
  rfl
theorem ins_rd {x : Addr} {row : Int} {toks : List Str} {i : Nat} {M : Mh} (h : Rd x row toks i M) : insW M (.ref x) = some (22, (["row", "words", "at"] : List Str)) := by
  unfold Rd at h
  simp only [insW, h]
  rfl
theorem put_row {y : W} : putW "row" y [] = [(("row" : Str), y)] := rfl
theorem put_words {y v : W} : putW "words" y [(("row" : Str), v)] = [(("row" : Str), v), (("words" : Str), y)] := rfl
theorem put_at0 {y v u : W} : putW "at" y [(("row" : Str), v), (("words" : Str), u)] = [(("row" : Str), v), (("words" : Str), u), (("at" : Str), y)] := rfl
theorem put_at {y v u w : W} : putW "at" y [(("row" : Str), v), (("words" : Str), u), (("at" : Str), w)] = [(("row" : Str), v), (("words" : Str), u), (("at" : Str), y)] := rfl
def sp_Reader_ini : Nat → Wp := fun _ ws M Q _ => ∃ (x : Addr) (row : Int) (toks : List Str), ws = [.ref x, .int row, .lst (toks.map W.str)] ∧ M x = some (.ins 22 []) ∧ ∀ M', Rd x row toks 0 M' → Fx1 x M M' → Q .non M'
theorem keep_Reader_ini {Γ : Gam} {k : Nat} : KeepC Γ n_Reader_ini 3 c_Reader_ini (sp_Reader_ini k) := by
  rintro ws M Q Ex ⟨x, row, toks, rfl, hx, q⟩
  refine ⟨rfl, ?_⟩
  show dSs Γ _ _ [some (.ref x), some (.int row), some (.lst (toks.map W.str))] M
  simp only [st_Reader_ini_2, st_Reader_ini_1, st_Reader_ini, dX, dXs, dXo, dXi, dSc, d2, d1, dN, dVar, dC, dTup, dLst, dTru, dB, dChain, dIte, dNotV, dNotT, dJoinV, dJoinT, dNil, dCons, dCall, dBM, dIsi, dIsi2, dAttr, dMeth, dNew, dDget, dDin, dDnew, dKidx, dKin, dKget, dDisp, dFrz, dSlice, dNoPart, dPart, dAsg, dExpr, dRet, dIf, dFld, dSet, dDput, dNever, dFor, dNext, binP, cmpP, iSeqD, iRg1, iRg2, iZip, iEnumD, Tg.asg, setAll, List.set, List.map_cons, List.map_nil, subW, modW, fdivW, powW, ltW, leW, gtW, geW, newL, finD, frzO, tupW, listW, oneW, twoW, BI.w, ints_eq, add_int, add_str, add_tup, add_lst, mul_int, mul_lst, idx_tup, idx_lst, idx_scr, idx_str, len_tup, len_lst, len_scr, len_str, sl_tup, sl_lst, neg_int, str_int, str_str, int_int, int_bl, is_non, is_int, is_str, is_tup, is_lst, is_bl, is_bb, eq_int, eq_str, eq_bl, ne_int, ne_str, ne_bl, eq_nilL, ty_non, ty_bl, ty_int, ty_str, ty_tup, ty_lst, ty_scr, ty_dk, Ty.sub, tr_bl, tr_non, tr_int, tr_str, sv_lst, sv_tup, sv_scr, lv_lst, at0, at1, at2, cut1, len0, ss_nil, for_nil, for_cons, pairs_cons, pairs_nil, pairs_nil', walk_lst, walk_scr, walk_tup, walk_str, walk_ref, List.getElem?_cons_zero, List.getElem?_cons_succ, List.length_cons, List.length_nil, List.append_nil, List.cons_append, List.nil_append, Option.some.injEq, W.int.injEq, W.str.injEq, W.bl.injEq, W.tup.injEq, W.lst.injEq, W.ref.injEq, List.cons.injEq, Option.map_some, exists_and_left, exists_and_right, exists_eq_left, exists_eq_left', exists_eq, exists_eq', exists_eq_right, exists_eq_right', and_true, true_and, and_assoc, reduceIte, reduceCtorEq, decide_true, decide_false, decide_eq_true_eq, decide_eq_false_iff_not, Bool.not_eq_true', Bool.not_eq_false', Bool.true_eq_false, Bool.false_eq_true, if_true, if_false, Bool.not_true, Bool.not_false, ite_true, ite_false, Int.cast_ofNat_Int, Int.reduceAdd, Int.reduceSub, Int.reduceEq, Int.reduceLT, Int.reduceLE, Int.natCast_add, Nat.reduceEqDiff, Nat.reduceAdd, Nat.add_zero, Nat.zero_add, Nat.succ_ne_zero, not_true_eq_false, not_false_eq_true, Option.getD_some, Option.getD_none]
  refine ⟨_, _, hx, by decide, _, _, mup_at, by simp [put_row], _, _, mup_at, by simp [put_row, put_words], ?_⟩
  refine q _ ?_ fun b o hb h1 => by rw [mup_off h1, mup_off h1, mup_off h1]; exact hb
  unfold Rd
  rw [mup_at, put_row, put_words, put_at0]
  rfl
def sp_Reader_taken : Nat → Wp := fun _ ws M Q _ => ∃ (x : Addr) (row : Int) (toks : List Str) (i : Nat) (t : Str), ws = [.ref x] ∧ Rd x row toks i M ∧ toks[i]? = some t ∧ ∀ M', Rd x row toks (i + 1) M' → Fx1 x M M' → Q (.str t) M'
theorem keep_Reader_taken {Γ : Gam} {k : Nat} : KeepC Γ n_Reader_taken 1 c_Reader_taken (sp_Reader_taken k) := by
  rintro ws M Q Ex ⟨x, row, toks, i, t, rfl, hx, ht, q⟩
  refine ⟨rfl, ?_⟩
  show dSs Γ _ _ [some (.ref x)] M
  have hi : i < toks.length := (List.getElem?_eq_some_iff.mp ht).1
  have hn : ¬ ((toks.length : Int) ≤ (i : Int)) := by omega
  simp only [st_Reader_taken, fld_at hx, fld_words hx, List.length_map, dX, dXs, dXo, dXi, dSc, d2, d1, dN, dVar, dC, dTup, dLst, dTru, dB, dChain, dIte, dNotV, dNotT, dJoinV, dJoinT, dNil, dCons, dCall, dBM, dIsi, dIsi2, dAttr, dMeth, dNew, dDget, dDin, dDnew, dKidx, dKin, dKget, dDisp, dFrz, dSlice, dNoPart, dPart, dAsg, dExpr, dRet, dIf, dFld, dSet, dDput, dNever, dFor, dNext, binP, cmpP, iSeqD, iRg1, iRg2, iZip, iEnumD, Tg.asg, setAll, List.set, List.map_cons, List.map_nil, subW, modW, fdivW, powW, ltW, leW, gtW, geW, newL, finD, frzO, tupW, listW, oneW, twoW, BI.w, ints_eq, add_int, add_str, add_tup, add_lst, mul_int, mul_lst, idx_tup, idx_lst, idx_scr, idx_str, len_tup, len_lst, len_scr, len_str, sl_tup, sl_lst, neg_int, str_int, str_str, int_int, int_bl, is_non, is_int, is_str, is_tup, is_lst, is_bl, is_bb, eq_int, eq_str, eq_bl, ne_int, ne_str, ne_bl, eq_nilL, ty_non, ty_bl, ty_int, ty_str, ty_tup, ty_lst, ty_scr, ty_dk, Ty.sub, tr_bl, tr_non, tr_int, tr_str, sv_lst, sv_tup, sv_scr, lv_lst, at0, at1, at2, cut1, len0, ss_nil, for_nil, for_cons, pairs_cons, pairs_nil, pairs_nil', walk_lst, walk_scr, walk_tup, walk_str, walk_ref, List.getElem?_cons_zero, List.getElem?_cons_succ, List.length_cons, List.length_nil, List.append_nil, List.cons_append, List.nil_append, Option.some.injEq, W.int.injEq, W.str.injEq, W.bl.injEq, W.tup.injEq, W.lst.injEq, W.ref.injEq, List.cons.injEq, Option.map_some, exists_and_left, exists_and_right, exists_eq_left, exists_eq_left', exists_eq, exists_eq', exists_eq_right, exists_eq_right', and_true, true_and, and_assoc, reduceIte, reduceCtorEq, decide_true, decide_false, decide_eq_true_eq, decide_eq_false_iff_not, Bool.not_eq_true', Bool.not_eq_false', Bool.true_eq_false, Bool.false_eq_true, if_true, if_false, Bool.not_true, Bool.not_false, ite_true, ite_false, Int.cast_ofNat_Int, Int.reduceAdd, Int.reduceSub, Int.reduceEq, Int.reduceLT, Int.reduceLE, Int.natCast_add, Nat.reduceEqDiff, Nat.reduceAdd, Nat.add_zero, Nat.zero_add, Nat.succ_ne_zero, not_true_eq_false, not_false_eq_true, Option.getD_some, Option.getD_none, hn]
  have hx' := hx
  unfold Rd at hx'
  have h2 : Rd x row toks (i + 1) (mup M x (.ins 22 (putW "at" (.int ((i : Int) + 1)) [("row", .int row), ("words", .lst (toks.map W.str)), ("at", .int i)]))) := by
    unfold Rd
    rw [mup_at, put_at]
    rfl
  simp only [st_Reader_taken_1, fld_at hx, dX, dXs, dXo, dXi, dSc, d2, d1, dN, dVar, dC, dTup, dLst, dTru, dB, dChain, dIte, dNotV, dNotT, dJoinV, dJoinT, dNil, dCons, dCall, dBM, dIsi, dIsi2, dAttr, dMeth, dNew, dDget, dDin, dDnew, dKidx, dKin, dKget, dDisp, dFrz, dSlice, dNoPart, dPart, dAsg, dExpr, dRet, dIf, dFld, dSet, dDput, dNever, dFor, dNext, binP, cmpP, iSeqD, iRg1, iRg2, iZip, iEnumD, Tg.asg, setAll, List.set, List.map_cons, List.map_nil, subW, modW, fdivW, powW, ltW, leW, gtW, geW, newL, finD, frzO, tupW, listW, oneW, twoW, BI.w, ints_eq, add_int, add_str, add_tup, add_lst, mul_int, mul_lst, idx_tup, idx_lst, idx_scr, idx_str, len_tup, len_lst, len_scr, len_str, sl_tup, sl_lst, neg_int, str_int, str_str, int_int, int_bl, is_non, is_int, is_str, is_tup, is_lst, is_bl, is_bb, eq_int, eq_str, eq_bl, ne_int, ne_str, ne_bl, eq_nilL, ty_non, ty_bl, ty_int, ty_str, ty_tup, ty_lst, ty_scr, ty_dk, Ty.sub, tr_bl, tr_non, tr_int, tr_str, sv_lst, sv_tup, sv_scr, lv_lst, at0, at1, at2, cut1, len0, ss_nil, for_nil, for_cons, pairs_cons, pairs_nil, pairs_nil', walk_lst, walk_scr, walk_tup, walk_str, walk_ref, List.getElem?_cons_zero, List.getElem?_cons_succ, List.length_cons, List.length_nil, List.append_nil, List.cons_append, List.nil_append, Option.some.injEq, W.int.injEq, W.str.injEq, W.bl.injEq, W.tup.injEq, W.lst.injEq, W.ref.injEq, List.cons.injEq, Option.map_some, exists_and_left, exists_and_right, exists_eq_left, exists_eq_left', exists_eq, exists_eq', exists_eq_right, exists_eq_right', and_true, true_and, and_assoc, reduceIte, reduceCtorEq, decide_true, decide_false, decide_eq_true_eq, decide_eq_false_iff_not, Bool.not_eq_true', Bool.not_eq_false', Bool.true_eq_false, Bool.false_eq_true, if_true, if_false, Bool.not_true, Bool.not_false, ite_true, ite_false, Int.cast_ofNat_Int, Int.reduceAdd, Int.reduceSub, Int.reduceEq, Int.reduceLT, Int.reduceLE, Int.natCast_add, Nat.reduceEqDiff, Nat.reduceAdd, Nat.add_zero, Nat.zero_add, Nat.succ_ne_zero, not_true_eq_false, not_false_eq_true, Option.getD_some, Option.getD_none]
  refine ⟨_, _, hx', by simp, ?_⟩
  simp only [st_Reader_taken_2, fld_at h2, fld_words h2, dX, dXs, dXo, dXi, dSc, d2, d1, dN, dVar, dC, dTup, dLst, dTru, dB, dChain, dIte, dNotV, dNotT, dJoinV, dJoinT, dNil, dCons, dCall, dBM, dIsi, dIsi2, dAttr, dMeth, dNew, dDget, dDin, dDnew, dKidx, dKin, dKget, dDisp, dFrz, dSlice, dNoPart, dPart, dAsg, dExpr, dRet, dIf, dFld, dSet, dDput, dNever, dFor, dNext, binP, cmpP, iSeqD, iRg1, iRg2, iZip, iEnumD, Tg.asg, setAll, List.set, List.map_cons, List.map_nil, subW, modW, fdivW, powW, ltW, leW, gtW, geW, newL, finD, frzO, tupW, listW, oneW, twoW, BI.w, ints_eq, add_int, add_str, add_tup, add_lst, mul_int, mul_lst, idx_tup, idx_lst, idx_scr, idx_str, len_tup, len_lst, len_scr, len_str, sl_tup, sl_lst, neg_int, str_int, str_str, int_int, int_bl, is_non, is_int, is_str, is_tup, is_lst, is_bl, is_bb, eq_int, eq_str, eq_bl, ne_int, ne_str, ne_bl, eq_nilL, ty_non, ty_bl, ty_int, ty_str, ty_tup, ty_lst, ty_scr, ty_dk, Ty.sub, tr_bl, tr_non, tr_int, tr_str, sv_lst, sv_tup, sv_scr, lv_lst, at0, at1, at2, cut1, len0, ss_nil, for_nil, for_cons, pairs_cons, pairs_nil, pairs_nil', walk_lst, walk_scr, walk_tup, walk_str, walk_ref, List.getElem?_cons_zero, List.getElem?_cons_succ, List.length_cons, List.length_nil, List.append_nil, List.cons_append, List.nil_append, Option.some.injEq, W.int.injEq, W.str.injEq, W.bl.injEq, W.tup.injEq, W.lst.injEq, W.ref.injEq, List.cons.injEq, Option.map_some, exists_and_left, exists_and_right, exists_eq_left, exists_eq_left', exists_eq, exists_eq', exists_eq_right, exists_eq_right', and_true, true_and, and_assoc, reduceIte, reduceCtorEq, decide_true, decide_false, decide_eq_true_eq, decide_eq_false_iff_not, Bool.not_eq_true', Bool.not_eq_false', Bool.true_eq_false, Bool.false_eq_true, if_true, if_false, Bool.not_true, Bool.not_false, ite_true, ite_false, Int.cast_ofNat_Int, Int.reduceAdd, Int.reduceSub, Int.reduceEq, Int.reduceLT, Int.reduceLE, Int.natCast_add, Nat.reduceEqDiff, Nat.reduceAdd, Nat.add_zero, Nat.zero_add, Nat.succ_ne_zero, not_true_eq_false, not_false_eq_true, Option.getD_some, Option.getD_none, Int.add_sub_cancel]
  refine ⟨_, atN (w := .str t) (by rw [List.getElem?_map, ht]; rfl), q _ h2 fun b o hb h1 => by rw [mup_off h1]; exact hb⟩
def numOk (n : Nat) : Bool := let s := numS n
  decide (1 ≤ s.length) && decide (s.length ≤ 2) && s.cps.toList.all (fun c => (Str.ofString "0123456789").cps.toList.contains c) && (match s.cps.toList with | c :: r => !(c == 48) || r.isEmpty && decide (s = "0") | [] => false)
theorem numOk_all : ∀ n : Nat, n < 100 → numOk n = true := by decide +kernel
def sp_Reader_number : Nat → Wp := fun k ws M Q _ => ∃ (x : Addr) (row : Int) (toks : List Str) (i n : Nat), ws = [.ref x] ∧ Rd x row toks i M ∧ toks[i]? = some (numS n) ∧ n ≤ 99 ∧ 1 ≤ k ∧ ∀ M', Rd x row toks (i + 1) M' → Fx1 x M M' → Q (.int n) M'
theorem use_taken {k : Nat} {x : Addr} {row : Int} {toks : List Str} {i : Nat} {t : Str} {M : Mh} {Q : QW} {Ex : QX} (h : Rd x row toks i M) (ht : toks[i]? = some t) (q : ∀ M', Rd x row toks (i + 1) M' → Fx1 x M M' → Q (.str t) M') : sp_Reader_taken k [.ref x] M Q Ex := ⟨x, row, toks, i, t, rfl, h, ht, q⟩
theorem not_name : ∀ m : Str, m ∈ ([("taken" : Str), ("number" : Str), ("body" : Str), ("a_function" : Str)]) → m ∉ ([("row" : Str), ("words" : Str), ("at" : Str)]) := by decide
theorem keep_Reader_number {Γ : Gam} {k : Nat} (g_MOST_FIGURES : Γ.gl 4 = .int 2) (g_FIGURES : Γ.gl 0 = .str "0123456789") (mn_taken : Γ.meN 19 = "taken") (m_Reader_taken : Γ.me 22 19 = some (dn sp_Reader_taken k)) : KeepC Γ n_Reader_number 1 c_Reader_number (sp_Reader_number k) := by
  rintro ws M Q Ex ⟨x, row, toks, i, n, rfl, hx, ht, hn, hk, q⟩
  refine ⟨rfl, ?_⟩
  show dSs Γ _ _ [some (.ref x), none, none, none] M
  cases k with
  | zero => omega
  | succ k =>
  simp only [st_Reader_number, g_MOST_FIGURES, g_FIGURES, mn_taken, m_Reader_taken, dn, ins_rd hx, Prod.mk.injEq, dX, dXs, dXo, dXi, dSc, d2, d1, dN, dVar, dC, dTup, dLst, dTru, dB, dChain, dIte, dNotV, dNotT, dJoinV, dJoinT, dNil, dCons, dCall, dBM, dIsi, dIsi2, dAttr, dMeth, dNew, dDget, dDin, dDnew, dKidx, dKin, dKget, dDisp, dFrz, dSlice, dNoPart, dPart, dAsg, dExpr, dRet, dIf, dFld, dSet, dDput, dNever, dFor, dNext, binP, cmpP, iSeqD, iRg1, iRg2, iZip, iEnumD, Tg.asg, setAll, List.set, List.map_cons, List.map_nil, subW, modW, fdivW, powW, ltW, leW, gtW, geW, newL, finD, frzO, tupW, listW, oneW, twoW, BI.w, ints_eq, add_int, add_str, add_tup, add_lst, mul_int, mul_lst, idx_tup, idx_lst, idx_scr, idx_str, len_tup, len_lst, len_scr, len_str, sl_tup, sl_lst, neg_int, str_int, str_str, int_int, int_bl, is_non, is_int, is_str, is_tup, is_lst, is_bl, is_bb, eq_int, eq_str, eq_bl, ne_int, ne_str, ne_bl, eq_nilL, ty_non, ty_bl, ty_int, ty_str, ty_tup, ty_lst, ty_scr, ty_dk, Ty.sub, tr_bl, tr_non, tr_int, tr_str, sv_lst, sv_tup, sv_scr, lv_lst, at0, at1, at2, cut1, len0, ss_nil, for_nil, for_cons, pairs_cons, pairs_nil, pairs_nil', walk_lst, walk_scr, walk_tup, walk_str, walk_ref, List.getElem?_cons_zero, List.getElem?_cons_succ, List.length_cons, List.length_nil, List.append_nil, List.cons_append, List.nil_append, Option.some.injEq, W.int.injEq, W.str.injEq, W.bl.injEq, W.tup.injEq, W.lst.injEq, W.ref.injEq, List.cons.injEq, Option.map_some, exists_and_left, exists_and_right, exists_eq_left, exists_eq_left', exists_eq, exists_eq', exists_eq_right, exists_eq_right', and_true, true_and, and_assoc, reduceIte, reduceCtorEq, decide_true, decide_false, decide_eq_true_eq, decide_eq_false_iff_not, Bool.not_eq_true', Bool.not_eq_false', Bool.true_eq_false, Bool.false_eq_true, if_true, if_false, Bool.not_true, Bool.not_false, ite_true, ite_false, Int.cast_ofNat_Int, Int.reduceAdd, Int.reduceSub, Int.reduceEq, Int.reduceLT, Int.reduceLE, Int.natCast_add, Nat.reduceEqDiff, Nat.reduceAdd, Nat.add_zero, Nat.zero_add, Nat.succ_ne_zero, not_true_eq_false, not_false_eq_true, Option.getD_some, Option.getD_none]
  refine ⟨not_name _ (by simp), use_taken hx ht fun M1 h1 f1 => ?_⟩
  have ok := numOk_all n (by omega)
  unfold numOk at ok
  simp only [Bool.and_eq_true, decide_eq_true_eq, List.all_eq_true] at ok
  obtain ⟨⟨⟨l1, l2⟩, hF⟩, h0⟩ := ok
  have hi : PySem.intText? (numS n) = some (n : Int) := TL.int_num (Nat.le_trans (TL.numL_len (k := 2) (by decide) (by omega)) (by decide))
  generalize numS n = s at l1 l2 hF h0 hi
  have b1 : (1 : Int) ≤ (s.length : Int) := by omega
  have b2 : (s.length : Int) ≤ 2 := by omega
  simp only [st_Reader_number_1, dLc, wipeW, g_MOST_FIGURES, g_FIGURES, mn_taken, m_Reader_taken, dn, dX, dXs, dXo, dXi, dSc, d2, d1, dN, dVar, dC, dTup, dLst, dTru, dB, dChain, dIte, dNotV, dNotT, dJoinV, dJoinT, dNil, dCons, dCall, dBM, dIsi, dIsi2, dAttr, dMeth, dNew, dDget, dDin, dDnew, dKidx, dKin, dKget, dDisp, dFrz, dSlice, dNoPart, dPart, dAsg, dExpr, dRet, dIf, dFld, dSet, dDput, dNever, dFor, dNext, binP, cmpP, iSeqD, iRg1, iRg2, iZip, iEnumD, Tg.asg, setAll, List.set, List.map_cons, List.map_nil, subW, modW, fdivW, powW, ltW, leW, gtW, geW, newL, finD, frzO, tupW, listW, oneW, twoW, BI.w, ints_eq, add_int, add_str, add_tup, add_lst, mul_int, mul_lst, idx_tup, idx_lst, idx_scr, idx_str, len_tup, len_lst, len_scr, len_str, sl_tup, sl_lst, neg_int, str_int, str_str, int_int, int_bl, is_non, is_int, is_str, is_tup, is_lst, is_bl, is_bb, eq_int, eq_str, eq_bl, ne_int, ne_str, ne_bl, eq_nilL, ty_non, ty_bl, ty_int, ty_str, ty_tup, ty_lst, ty_scr, ty_dk, Ty.sub, tr_bl, tr_non, tr_int, tr_str, sv_lst, sv_tup, sv_scr, lv_lst, at0, at1, at2, cut1, len0, ss_nil, for_nil, for_cons, pairs_cons, pairs_nil, pairs_nil', walk_lst, walk_scr, walk_tup, walk_str, walk_ref, List.getElem?_cons_zero, List.getElem?_cons_succ, List.length_cons, List.length_nil, List.append_nil, List.cons_append, List.nil_append, Option.some.injEq, W.int.injEq, W.str.injEq, W.bl.injEq, W.tup.injEq, W.lst.injEq, W.ref.injEq, List.cons.injEq, Option.map_some, exists_and_left, exists_and_right, exists_eq_left, exists_eq_left', exists_eq, exists_eq', exists_eq_right, exists_eq_right', and_true, true_and, and_assoc, reduceIte, reduceCtorEq, decide_true, decide_false, decide_eq_true_eq, decide_eq_false_iff_not, Bool.not_eq_true', Bool.not_eq_false', Bool.true_eq_false, Bool.false_eq_true, if_true, if_false, Bool.not_true, Bool.not_false, ite_true, ite_false, Int.cast_ofNat_Int, Int.reduceAdd, Int.reduceSub, Int.reduceEq, Int.reduceLT, Int.reduceLE, Int.natCast_add, Nat.reduceEqDiff, Nat.reduceAdd, Nat.add_zero, Nat.zero_add, Nat.succ_ne_zero, not_true_eq_false, not_false_eq_true, Option.getD_some, Option.getD_none, b1, b2]
  refine ⟨szl (by omega), szl (by simp [signs]; exact Nat.le_trans l2 (by decide)), lc_of (s.cps.toList.map fun c => (.str ⟨#[c]⟩, none)) (by simp [signs, Function.comp]) (fun _ _ _ => trivial) (fun D hD p hp us => ?_) ?_⟩
  · obtain ⟨c, hc, rfl⟩ := List.mem_map.mp hp
    refine ⟨_, rfl, fun R h => ?_, fun y hy => nomatch hy⟩
    have hc2 : c ∈ (Str.ofString "0123456789").cps.toList := List.contains_iff_mem.mp (hF c hc)
    simp only [g_MOST_FIGURES, g_FIGURES, mn_taken, m_Reader_taken, dn, dX, dXs, dXo, dXi, dSc, d2, d1, dN, dVar, dC, dTup, dLst, dTru, dB, dChain, dIte, dNotV, dNotT, dJoinV, dJoinT, dNil, dCons, dCall, dBM, dIsi, dIsi2, dAttr, dMeth, dNew, dDget, dDin, dDnew, dKidx, dKin, dKget, dDisp, dFrz, dSlice, dNoPart, dPart, dAsg, dExpr, dRet, dIf, dFld, dSet, dDput, dNever, dFor, dNext, binP, cmpP, iSeqD, iRg1, iRg2, iZip, iEnumD, Tg.asg, setAll, List.set, List.map_cons, List.map_nil, subW, modW, fdivW, powW, ltW, leW, gtW, geW, newL, finD, frzO, tupW, listW, oneW, twoW, BI.w, ints_eq, add_int, add_str, add_tup, add_lst, mul_int, mul_lst, idx_tup, idx_lst, idx_scr, idx_str, len_tup, len_lst, len_scr, len_str, sl_tup, sl_lst, neg_int, str_int, str_str, int_int, int_bl, is_non, is_int, is_str, is_tup, is_lst, is_bl, is_bb, eq_int, eq_str, eq_bl, ne_int, ne_str, ne_bl, eq_nilL, ty_non, ty_bl, ty_int, ty_str, ty_tup, ty_lst, ty_scr, ty_dk, Ty.sub, tr_bl, tr_non, tr_int, tr_str, sv_lst, sv_tup, sv_scr, lv_lst, at0, at1, at2, cut1, len0, ss_nil, for_nil, for_cons, pairs_cons, pairs_nil, pairs_nil', walk_lst, walk_scr, walk_tup, walk_str, walk_ref, List.getElem?_cons_zero, List.getElem?_cons_succ, List.length_cons, List.length_nil, List.append_nil, List.cons_append, List.nil_append, Option.some.injEq, W.int.injEq, W.str.injEq, W.bl.injEq, W.tup.injEq, W.lst.injEq, W.ref.injEq, List.cons.injEq, Option.map_some, exists_and_left, exists_and_right, exists_eq_left, exists_eq_left', exists_eq, exists_eq', exists_eq_right, exists_eq_right', and_true, true_and, and_assoc, reduceIte, reduceCtorEq, decide_true, decide_false, decide_eq_true_eq, decide_eq_false_iff_not, Bool.not_eq_true', Bool.not_eq_false', Bool.true_eq_false, Bool.false_eq_true, if_true, if_false, Bool.not_true, Bool.not_false, ite_true, ite_false, Int.cast_ofNat_Int, Int.reduceAdd, Int.reduceSub, Int.reduceEq, Int.reduceLT, Int.reduceLE, Int.natCast_add, Nat.reduceEqDiff, Nat.reduceAdd, Nat.add_zero, Nat.zero_add, Nat.succ_ne_zero, not_true_eq_false, not_false_eq_true, Option.getD_some, Option.getD_none]
    refine .inr ⟨true, ⟨c, rfl, (decide_eq_true hc2).symm⟩, false, rfl, h⟩
  · have e : (s.cps.toList.map fun c => ((.str ⟨#[c]⟩, none) : W × Option W)).filterMap (·.2) = [] := by
      generalize s.cps.toList = l
      induction l with
      | nil => rfl
      | cons c l ih => rw [List.map_cons, List.filterMap_cons]; exact ih
    rw [e]
    simp only [eq_nilL, st_Reader_number_2, dX, dXs, dXo, dXi, dSc, d2, d1, dN, dVar, dC, dTup, dLst, dTru, dB, dChain, dIte, dNotV, dNotT, dJoinV, dJoinT, dNil, dCons, dCall, dBM, dIsi, dIsi2, dAttr, dMeth, dNew, dDget, dDin, dDnew, dKidx, dKin, dKget, dDisp, dFrz, dSlice, dNoPart, dPart, dAsg, dExpr, dRet, dIf, dFld, dSet, dDput, dNever, dFor, dNext, binP, cmpP, iSeqD, iRg1, iRg2, iZip, iEnumD, Tg.asg, setAll, List.set, List.map_cons, List.map_nil, subW, modW, fdivW, powW, ltW, leW, gtW, geW, newL, finD, frzO, tupW, listW, oneW, twoW, BI.w, ints_eq, add_int, add_str, add_tup, add_lst, mul_int, mul_lst, idx_tup, idx_lst, idx_scr, idx_str, len_tup, len_lst, len_scr, len_str, sl_tup, sl_lst, neg_int, str_int, str_str, int_int, int_bl, is_non, is_int, is_str, is_tup, is_lst, is_bl, is_bb, eq_int, eq_str, eq_bl, ne_int, ne_str, ne_bl, eq_nilL, ty_non, ty_bl, ty_int, ty_str, ty_tup, ty_lst, ty_scr, ty_dk, Ty.sub, tr_bl, tr_non, tr_int, tr_str, sv_lst, sv_tup, sv_scr, lv_lst, at0, at1, at2, cut1, len0, ss_nil, for_nil, for_cons, pairs_cons, pairs_nil, pairs_nil', walk_lst, walk_scr, walk_tup, walk_str, walk_ref, List.getElem?_cons_zero, List.getElem?_cons_succ, List.length_cons, List.length_nil, List.append_nil, List.cons_append, List.nil_append, Option.some.injEq, W.int.injEq, W.str.injEq, W.bl.injEq, W.tup.injEq, W.lst.injEq, W.ref.injEq, List.cons.injEq, Option.map_some, exists_and_left, exists_and_right, exists_eq_left, exists_eq_left', exists_eq, exists_eq', exists_eq_right, exists_eq_right', and_true, true_and, and_assoc, reduceIte, reduceCtorEq, decide_true, decide_false, decide_eq_true_eq, decide_eq_false_iff_not, Bool.not_eq_true', Bool.not_eq_false', Bool.true_eq_false, Bool.false_eq_true, if_true, if_false, Bool.not_true, Bool.not_false, ite_true, ite_false, Int.cast_ofNat_Int, Int.reduceAdd, Int.reduceSub, Int.reduceEq, Int.reduceLT, Int.reduceLE, Int.natCast_add, Nat.reduceEqDiff, Nat.reduceAdd, Nat.add_zero, Nat.zero_add, Nat.succ_ne_zero, not_true_eq_false, not_false_eq_true, Option.getD_some, Option.getD_none]
    have fin : dSs Γ c_Reader_number_3 { nx := fun x M' => Q W.non M', rt := Q, ex := Ex } [some (W.ref x), some (W.str s), some (W.bl true), none] M1 := by
      simp only [st_Reader_number_3, dX, dXs, dXo, dXi, dSc, d2, d1, dN, dVar, dC, dTup, dLst, dTru, dB, dChain, dIte, dNotV, dNotT, dJoinV, dJoinT, dNil, dCons, dCall, dBM, dIsi, dIsi2, dAttr, dMeth, dNew, dDget, dDin, dDnew, dKidx, dKin, dKget, dDisp, dFrz, dSlice, dNoPart, dPart, dAsg, dExpr, dRet, dIf, dFld, dSet, dDput, dNever, dFor, dNext, binP, cmpP, iSeqD, iRg1, iRg2, iZip, iEnumD, Tg.asg, setAll, List.set, List.map_cons, List.map_nil, subW, modW, fdivW, powW, ltW, leW, gtW, geW, newL, finD, frzO, tupW, listW, oneW, twoW, BI.w, ints_eq, add_int, add_str, add_tup, add_lst, mul_int, mul_lst, idx_tup, idx_lst, idx_scr, idx_str, len_tup, len_lst, len_scr, len_str, sl_tup, sl_lst, neg_int, str_int, str_str, int_int, int_bl, is_non, is_int, is_str, is_tup, is_lst, is_bl, is_bb, eq_int, eq_str, eq_bl, ne_int, ne_str, ne_bl, eq_nilL, ty_non, ty_bl, ty_int, ty_str, ty_tup, ty_lst, ty_scr, ty_dk, Ty.sub, tr_bl, tr_non, tr_int, tr_str, sv_lst, sv_tup, sv_scr, lv_lst, at0, at1, at2, cut1, len0, ss_nil, for_nil, for_cons, pairs_cons, pairs_nil, pairs_nil', walk_lst, walk_scr, walk_tup, walk_str, walk_ref, List.getElem?_cons_zero, List.getElem?_cons_succ, List.length_cons, List.length_nil, List.append_nil, List.cons_append, List.nil_append, Option.some.injEq, W.int.injEq, W.str.injEq, W.bl.injEq, W.tup.injEq, W.lst.injEq, W.ref.injEq, List.cons.injEq, Option.map_some, exists_and_left, exists_and_right, exists_eq_left, exists_eq_left', exists_eq, exists_eq', exists_eq_right, exists_eq_right', and_true, true_and, and_assoc, reduceIte, reduceCtorEq, decide_true, decide_false, decide_eq_true_eq, decide_eq_false_iff_not, Bool.not_eq_true', Bool.not_eq_false', Bool.true_eq_false, Bool.false_eq_true, if_true, if_false, Bool.not_true, Bool.not_false, ite_true, ite_false, Int.cast_ofNat_Int, Int.reduceAdd, Int.reduceSub, Int.reduceEq, Int.reduceLT, Int.reduceLE, Int.natCast_add, Nat.reduceEqDiff, Nat.reduceAdd, Nat.add_zero, Nat.zero_add, Nat.succ_ne_zero, not_true_eq_false, not_false_eq_true, Option.getD_some, Option.getD_none]
      exact ⟨n, hi, Nat.le_trans l2 (by decide), q M1 h1 f1⟩
    cases hl : s.cps.toList with
    | nil => rw [hl] at h0; cases h0
    | cons c r =>
      refine ⟨szl (by omega), c, by simp [atI, ixN], ?_⟩
      rw [hl] at h0
      by_cases hs : ({ cps := #[c] } : Str) = Str.ofString "0"
      · have hc : c = 48 := by
          have : (#[c] : Array Nat) = (Str.ofString "0").cps := congrArg Str.cps hs
          have e2 : (Str.ofString "0").cps = #[48] := rfl
          rw [e2] at this
          simpa using this
        subst hc
        have : s = Str.ofString "0" := by simp at h0; exact h0.2
        rw [if_pos hs, if_neg (fun z => z this)]
        exact fin
      · rw [if_neg hs, if_neg hs]
        exact fin
def sp_Reader_body : Nat → Wp := fun k ws M Q _ => ∃ (x : Addr) (row : Int) (toks pre post : List Str) (b : Bd) (m : Nat), ws = [.ref x] ∧ Rd x row toks pre.length M ∧ toks = pre ++ (b.toks ++ post) ∧ b.ok m ∧ m ≤ 99 ∧ b.ht + 2 ≤ k ∧ ∀ M', Rd x row toks (pre.length + b.toks.length) M' → Fx1 x M M' → Q b.enc M'
theorem use_number {k : Nat} {x : Addr} {row : Int} {toks : List Str} {i n : Nat} {M : Mh} {Q : QW} {Ex : QX} (h : Rd x row toks i M) (ht : toks[i]? = some (numS n)) (hn : n ≤ 99) (hk : 1 ≤ k) (q : ∀ M', Rd x row toks (i + 1) M' → Fx1 x M M' → Q (.int n) M') : sp_Reader_number k [.ref x] M Q Ex := ⟨x, row, toks, i, n, rfl, h, ht, hn, hk, q⟩
theorem use_rbody {k m : Nat} {x : Addr} {row : Int} {toks : List Str} (pre post : List Str) {i : Nat} {b : Bd} {M : Mh} {Q : QW} {Ex : QX} (h : Rd x row toks i M) (hi : i = pre.length) (ht : toks = pre ++ (b.toks ++ post)) (ok : b.ok m) (hm : m ≤ 99) (hk : b.ht + 2 ≤ k) (q : ∀ M', Rd x row toks (i + b.toks.length) M' → Fx1 x M M' → Q b.enc M') :
    sp_Reader_body k [.ref x] M Q Ex := ⟨x, row, toks, pre, post, b, m, rfl, by rw [← hi]; exact h, ht, ok, hm, hk, by rw [← hi]; exact q⟩
theorem app_ref {M : Mh} {a : Addr} {ws : List W} {y : W} {Q : QW} (h : M a = some (.lst ws)) : appendW (.ref a) [y] M Q = (ws.length < sizeLine ∧ Q .non (mup M a (.lst (ws ++ [y])))) := by
  show (∃ ws', M a = some (.lst ws') ∧ ws'.length < sizeLine ∧ Q .non (mup M a (.lst (ws' ++ [y])))) = _
  simp [h]
theorem recv_ref {M : Mh} {a : Addr} {ws : List W} {b : BM} (h : M a = some (.lst ws)) : BM.recv M b (.ref a) = (b.cls = "list") := by
  show (b.cls = "list" ∧ ∃ us, M a = some (.lst us)) = _
  simp [h]
theorem Rd.up {x D : Addr} {row : Int} {toks : List Str} {i : Nat} {M : Mh} {o : MO} (h : Rd x row toks i M) (ne : x ≠ D) : Rd x row toks i (mup M D o) := by unfold Rd; rw [mup_off ne]; exact h
inductive Pt where
  | nu (n : Nat) | bd (b : Bd)
def Pt.enc : Pt → W
  | .nu n => .int n
  | .bd b => b.enc
def Pt.toks : Pt → List Str
  | .nu n => [numS n]
  | .bd b => b.toks
def Pt.isB : Pt → Bool
  | .nu _ => false
  | .bd _ => true
def Bd.word : Bd → Str
  | .num _ => "num"
  | .arg => "argument"
  | .way _ => "way"
  | .plus _ _ => "plus"
  | .less _ _ => "less"
  | .times _ _ => "times"
  | .iff _ _ _ => "if"
  | .thn _ _ => "then"
  | .say _ => "say"
  | .call _ _ => "call"
  | .thr _ _ => "through"
def Bd.pts : Bd → List (Str × Pt)
  | .num n => [("n", .nu n)]
  | .arg => []
  | .way f => [("f", .nu f)]
  | .plus a b => [("x", .bd a), ("x", .bd b)]
  | .less a b => [("x", .bd a), ("x", .bd b)]
  | .times a b => [("x", .bd a), ("x", .bd b)]
  | .iff a b c => [("x", .bd a), ("x", .bd b), ("x", .bd c)]
  | .thn a b => [("x", .bd a), ("x", .bd b)]
  | .say a => [("x", .bd a)]
  | .call f a => [("f", .nu f), ("x", .bd a)]
  | .thr a b => [("x", .bd a), ("x", .bd b)]
def ptToks : List (Str × Pt) → List Str
  | [] => []
  | p :: ps => p.2.toks ++ ptToks ps
theorem Bd.toks_pts (b : Bd) : b.toks = b.word :: ptToks b.pts := by cases b <;> simp [Bd.toks, Bd.word, Bd.pts, ptToks, Pt.toks]
theorem Bd.enc_pts (b : Bd) : b.enc = .tup (.str b.word :: b.pts.map fun p => p.2.enc) := by cases b <;> rfl
def Bd.arms : Bd → Str
  | .num _ => "n"
  | .arg => ""
  | .way _ => "f"
  | .iff _ _ _ => "xxx"
  | .say _ => "x"
  | .call _ _ => "fx"
  | _ => "xx"
theorem Bd.tl_arms (b : Bd) : tlook ARMS b.word = some (.str b.arms) := by cases b <;> rfl
theorem Bd.sg_arms (b : Bd) : signs b.arms = b.pts.map fun p => .str p.1 := by cases b <;> rfl
def PtOk (m k : Nat) (p : Str × Pt) : Prop := match p.2 with
  | .nu n => n ≤ 99 ∧ p.1 ≠ "x"
  | .bd b => b.ok m ∧ b.ht + 2 ≤ k ∧ p.1 = "x"
theorem Bd.pts_ok {m k : Nat} (hm : m ≤ 99) {b : Bd} (ok : b.ok m) (hk : b.ht + 2 ≤ k + 1) : ∀ p ∈ b.pts, PtOk m k p := by
  have nx : (("n" : Str) ≠ "x") := by decide
  have fx : (("f" : Str) ≠ "x") := by decide
  cases b <;> simp only [Bd.pts, List.mem_cons, List.not_mem_nil, or_false, forall_eq_or_imp, forall_eq, false_imp_iff, implies_true] <;> simp only [Bd.ht] at hk
  case num n => exact ⟨ok, nx⟩
  case way f => have ok : f < m := ok; exact ⟨by omega, fx⟩
  case iff a b c => exact ⟨⟨ok.1, by omega, rfl⟩, ⟨ok.2.1, by omega, rfl⟩, ⟨ok.2.2, by omega, rfl⟩⟩
  case say a => exact ⟨ok, by omega, rfl⟩
  case call f a => have ok1 := ok.1; exact ⟨⟨by omega, fx⟩, ⟨ok.2, by omega, rfl⟩⟩
  all_goals exact ⟨⟨ok.1, by omega, rfl⟩, ⟨ok.2, by omega, rfl⟩⟩
theorem Bd.pts_len (b : Bd) : b.pts.length ≤ 3 := by cases b <;> simp [Bd.pts]
theorem keep_Reader_body {Γ : Gam} {k : Nat} (k_ARMS : Γ.kd 0 = ARMS) (mn_taken : Γ.meN 19 = "taken") (m_Reader_taken : Γ.me 22 19 = some (dn sp_Reader_taken k)) (mn_body : Γ.meN 21 = "body") (m_Reader_body : Γ.me 22 21 = some (dn sp_Reader_body k)) (mn_number : Γ.meN 20 = "number") (m_Reader_number : Γ.me 22 20 = some (dn sp_Reader_number k)) : KeepC Γ n_Reader_body 1 c_Reader_body (sp_Reader_body k) := by
  rintro ws M Q Ex ⟨x, row, toks, pre, post, b, m, rfl, hx, ht, ok, hm, hk, q⟩
  refine ⟨rfl, ?_⟩
  show dSs Γ _ _ [some (.ref x), none, none, none] M
  cases k with
  | zero => omega
  | succ k =>
  simp only [st_Reader_body, k_ARMS, mn_taken, m_Reader_taken, mn_body, m_Reader_body, mn_number, m_Reader_number, dn, ins_rd hx, Prod.mk.injEq, dX, dXs, dXo, dXi, dSc, d2, d1, dN, dVar, dC, dTup, dLst, dTru, dB, dChain, dIte, dNotV, dNotT, dJoinV, dJoinT, dNil, dCons, dCall, dBM, dIsi, dIsi2, dAttr, dMeth, dNew, dDget, dDin, dDnew, dKidx, dKin, dKget, dDisp, dFrz, dSlice, dNoPart, dPart, dAsg, dExpr, dRet, dIf, dFld, dSet, dDput, dNever, dFor, dNext, binP, cmpP, iSeqD, iRg1, iRg2, iZip, iEnumD, Tg.asg, setAll, List.set, List.map_cons, List.map_nil, subW, modW, fdivW, powW, ltW, leW, gtW, geW, newL, finD, frzO, tupW, listW, oneW, twoW, BI.w, ints_eq, add_int, add_str, add_tup, add_lst, mul_int, mul_lst, idx_tup, idx_lst, idx_scr, idx_str, len_tup, len_lst, len_scr, len_str, sl_tup, sl_lst, neg_int, str_int, str_str, int_int, int_bl, is_non, is_int, is_str, is_tup, is_lst, is_bl, is_bb, eq_int, eq_str, eq_bl, ne_int, ne_str, ne_bl, eq_nilL, ty_non, ty_bl, ty_int, ty_str, ty_tup, ty_lst, ty_scr, ty_dk, Ty.sub, tr_bl, tr_non, tr_int, tr_str, sv_lst, sv_tup, sv_scr, lv_lst, at0, at1, at2, cut1, len0, ss_nil, for_nil, for_cons, pairs_cons, pairs_nil, pairs_nil', walk_lst, walk_scr, walk_tup, walk_str, walk_ref, List.getElem?_cons_zero, List.getElem?_cons_succ, List.length_cons, List.length_nil, List.append_nil, List.cons_append, List.nil_append, Option.some.injEq, W.int.injEq, W.str.injEq, W.bl.injEq, W.tup.injEq, W.lst.injEq, W.ref.injEq, List.cons.injEq, Option.map_some, exists_and_left, exists_and_right, exists_eq_left, exists_eq_left', exists_eq, exists_eq', exists_eq_right, exists_eq_right', and_true, true_and, and_assoc, reduceIte, reduceCtorEq, decide_true, decide_false, decide_eq_true_eq, decide_eq_false_iff_not, Bool.not_eq_true', Bool.not_eq_false', Bool.true_eq_false, Bool.false_eq_true, if_true, if_false, Bool.not_true, Bool.not_false, ite_true, ite_false, Int.cast_ofNat_Int, Int.reduceAdd, Int.reduceSub, Int.reduceEq, Int.reduceLT, Int.reduceLE, Int.natCast_add, Nat.reduceEqDiff, Nat.reduceAdd, Nat.add_zero, Nat.zero_add, Nat.succ_ne_zero, not_true_eq_false, not_false_eq_true, Option.getD_some, Option.getD_none]
  refine ⟨not_name _ (by simp), ?_⟩
  have e0 : toks[pre.length]? = some b.word := by rw [ht, b.toks_pts]; simp
  refine use_taken hx e0 fun M1 h1 f1 => ?_
  simp only [st_Reader_body_1, st_Reader_body_2, k_ARMS, mn_taken, m_Reader_taken, mn_body, m_Reader_body, mn_number, m_Reader_number, dn, b.tl_arms, Option.isSome_some, dX, dXs, dXo, dXi, dSc, d2, d1, dN, dVar, dC, dTup, dLst, dTru, dB, dChain, dIte, dNotV, dNotT, dJoinV, dJoinT, dNil, dCons, dCall, dBM, dIsi, dIsi2, dAttr, dMeth, dNew, dDget, dDin, dDnew, dKidx, dKin, dKget, dDisp, dFrz, dSlice, dNoPart, dPart, dAsg, dExpr, dRet, dIf, dFld, dSet, dDput, dNever, dFor, dNext, binP, cmpP, iSeqD, iRg1, iRg2, iZip, iEnumD, Tg.asg, setAll, List.set, List.map_cons, List.map_nil, subW, modW, fdivW, powW, ltW, leW, gtW, geW, newL, finD, frzO, tupW, listW, oneW, twoW, BI.w, ints_eq, add_int, add_str, add_tup, add_lst, mul_int, mul_lst, idx_tup, idx_lst, idx_scr, idx_str, len_tup, len_lst, len_scr, len_str, sl_tup, sl_lst, neg_int, str_int, str_str, int_int, int_bl, is_non, is_int, is_str, is_tup, is_lst, is_bl, is_bb, eq_int, eq_str, eq_bl, ne_int, ne_str, ne_bl, eq_nilL, ty_non, ty_bl, ty_int, ty_str, ty_tup, ty_lst, ty_scr, ty_dk, Ty.sub, tr_bl, tr_non, tr_int, tr_str, sv_lst, sv_tup, sv_scr, lv_lst, at0, at1, at2, cut1, len0, ss_nil, for_nil, for_cons, pairs_cons, pairs_nil, pairs_nil', walk_lst, walk_scr, walk_tup, walk_str, walk_ref, List.getElem?_cons_zero, List.getElem?_cons_succ, List.length_cons, List.length_nil, List.append_nil, List.cons_append, List.nil_append, Option.some.injEq, W.int.injEq, W.str.injEq, W.bl.injEq, W.tup.injEq, W.lst.injEq, W.ref.injEq, List.cons.injEq, Option.map_some, exists_and_left, exists_and_right, exists_eq_left, exists_eq_left', exists_eq, exists_eq', exists_eq_right, exists_eq_right', and_true, true_and, and_assoc, reduceIte, reduceCtorEq, decide_true, decide_false, decide_eq_true_eq, decide_eq_false_iff_not, Bool.not_eq_true', Bool.not_eq_false', Bool.true_eq_false, Bool.false_eq_true, if_true, if_false, Bool.not_true, Bool.not_false, ite_true, ite_false, Int.cast_ofNat_Int, Int.reduceAdd, Int.reduceSub, Int.reduceEq, Int.reduceLT, Int.reduceLE, Int.natCast_add, Nat.reduceEqDiff, Nat.reduceAdd, Nat.add_zero, Nat.zero_add, Nat.succ_ne_zero, not_true_eq_false, not_false_eq_true, Option.getD_some, Option.getD_none]
  refine ⟨by decide, fun L hL => ?_⟩
  have nL : x ≠ L := fun z => by rw [← z] at hL; unfold Rd at h1; rw [h1] at hL; cases hL
  have h2 := h1.up (o := .lst [.str b.word]) nL
  have f2 : Fx1 x M (mup M1 L (.lst [.str b.word])) := fun c o hc h3 => by
    rw [mup_off (fun z => by have := f1 c o hc h3; rw [z, hL] at this; cases this)]
    exact f1 c o hc h3
  have hf : ∀ M', Fx1 x M1 M' → Fx1 x M M' := fun M' f => f1.trans f
  simp only [st_Reader_body_3, k_ARMS, mn_taken, m_Reader_taken, mn_body, m_Reader_body, mn_number, m_Reader_number, dn, b.tl_arms, b.sg_arms, dX, dXs, dXo, dXi, dSc, d2, d1, dN, dVar, dC, dTup, dLst, dTru, dB, dChain, dIte, dNotV, dNotT, dJoinV, dJoinT, dNil, dCons, dCall, dBM, dIsi, dIsi2, dAttr, dMeth, dNew, dDget, dDin, dDnew, dKidx, dKin, dKget, dDisp, dFrz, dSlice, dNoPart, dPart, dAsg, dExpr, dRet, dIf, dFld, dSet, dDput, dNever, dFor, dNext, binP, cmpP, iSeqD, iRg1, iRg2, iZip, iEnumD, Tg.asg, setAll, List.set, List.map_cons, List.map_nil, subW, modW, fdivW, powW, ltW, leW, gtW, geW, newL, finD, frzO, tupW, listW, oneW, twoW, BI.w, ints_eq, add_int, add_str, add_tup, add_lst, mul_int, mul_lst, idx_tup, idx_lst, idx_scr, idx_str, len_tup, len_lst, len_scr, len_str, sl_tup, sl_lst, neg_int, str_int, str_str, int_int, int_bl, is_non, is_int, is_str, is_tup, is_lst, is_bl, is_bb, eq_int, eq_str, eq_bl, ne_int, ne_str, ne_bl, eq_nilL, ty_non, ty_bl, ty_int, ty_str, ty_tup, ty_lst, ty_scr, ty_dk, Ty.sub, tr_bl, tr_non, tr_int, tr_str, sv_lst, sv_tup, sv_scr, lv_lst, at0, at1, at2, cut1, len0, ss_nil, for_nil, for_cons, pairs_cons, pairs_nil, pairs_nil', walk_lst, walk_scr, walk_tup, walk_str, walk_ref, List.getElem?_cons_zero, List.getElem?_cons_succ, List.length_cons, List.length_nil, List.append_nil, List.cons_append, List.nil_append, Option.some.injEq, W.int.injEq, W.str.injEq, W.bl.injEq, W.tup.injEq, W.lst.injEq, W.ref.injEq, List.cons.injEq, Option.map_some, exists_and_left, exists_and_right, exists_eq_left, exists_eq_left', exists_eq, exists_eq', exists_eq_right, exists_eq_right', and_true, true_and, and_assoc, reduceIte, reduceCtorEq, decide_true, decide_false, decide_eq_true_eq, decide_eq_false_iff_not, Bool.not_eq_true', Bool.not_eq_false', Bool.true_eq_false, Bool.false_eq_true, if_true, if_false, Bool.not_true, Bool.not_false, ite_true, ite_false, Int.cast_ofNat_Int, Int.reduceAdd, Int.reduceSub, Int.reduceEq, Int.reduceLT, Int.reduceLE, Int.natCast_add, Nat.reduceEqDiff, Nat.reduceAdd, Nat.add_zero, Nat.zero_add, Nat.succ_ne_zero, not_true_eq_false, not_false_eq_true, Option.getD_some, Option.getD_none]
  have key : ∀ (ps : List (Str × Pt)) (acc : List W) (pre' : List Str) (y : Option W) M', (∀ p ∈ ps, PtOk m k p) → Rd x row toks pre'.length M' → M' L = some (.lst acc) → acc.length + ps.length ≤ 10 → toks = pre' ++ (ptToks ps ++ post) → Fx1 x M M' →
      (∀ M'', Rd x row toks (pre'.length + (ptToks ps).length) M'' → Fx1 x M M'' → Q (.tup (acc ++ ps.map fun p => p.2.enc)) M'') →
      forW (fun _ => True) (.name 3) (dSs Γ c_Reader_body_6) (ps.map fun p => .str p.1) { nx := dSs Γ c_Reader_body_4 { nx := fun x M' => Q W.non M', rt := Q, ex := Ex }, rt := Q, ex := Ex } [some (.ref x), some (.str b.word), some (.ref L), y] M' := by
    intro ps
    induction ps with
    | nil =>
      intro acc pre' y M' _ hr hL' _ _ hfx hq
      simp only [List.map_nil, for_nil, st_Reader_body_4, sv_ref hL', dX, dXs, dXo, dXi, dSc, d2, d1, dN, dVar, dC, dTup, dLst, dTru, dB, dChain, dIte, dNotV, dNotT, dJoinV, dJoinT, dNil, dCons, dCall, dBM, dIsi, dIsi2, dAttr, dMeth, dNew, dDget, dDin, dDnew, dKidx, dKin, dKget, dDisp, dFrz, dSlice, dNoPart, dPart, dAsg, dExpr, dRet, dIf, dFld, dSet, dDput, dNever, dFor, dNext, binP, cmpP, iSeqD, iRg1, iRg2, iZip, iEnumD, Tg.asg, setAll, List.set, List.map_cons, List.map_nil, subW, modW, fdivW, powW, ltW, leW, gtW, geW, newL, finD, frzO, tupW, listW, oneW, twoW, BI.w, ints_eq, add_int, add_str, add_tup, add_lst, mul_int, mul_lst, idx_tup, idx_lst, idx_scr, idx_str, len_tup, len_lst, len_scr, len_str, sl_tup, sl_lst, neg_int, str_int, str_str, int_int, int_bl, is_non, is_int, is_str, is_tup, is_lst, is_bl, is_bb, eq_int, eq_str, eq_bl, ne_int, ne_str, ne_bl, eq_nilL, ty_non, ty_bl, ty_int, ty_str, ty_tup, ty_lst, ty_scr, ty_dk, Ty.sub, tr_bl, tr_non, tr_int, tr_str, sv_lst, sv_tup, sv_scr, lv_lst, at0, at1, at2, cut1, len0, ss_nil, for_nil, for_cons, pairs_cons, pairs_nil, pairs_nil', walk_lst, walk_scr, walk_tup, walk_str, walk_ref, List.getElem?_cons_zero, List.getElem?_cons_succ, List.length_cons, List.length_nil, List.append_nil, List.cons_append, List.nil_append, Option.some.injEq, W.int.injEq, W.str.injEq, W.bl.injEq, W.tup.injEq, W.lst.injEq, W.ref.injEq, List.cons.injEq, Option.map_some, exists_and_left, exists_and_right, exists_eq_left, exists_eq_left', exists_eq, exists_eq', exists_eq_right, exists_eq_right', and_true, true_and, and_assoc, reduceIte, reduceCtorEq, decide_true, decide_false, decide_eq_true_eq, decide_eq_false_iff_not, Bool.not_eq_true', Bool.not_eq_false', Bool.true_eq_false, Bool.false_eq_true, if_true, if_false, Bool.not_true, Bool.not_false, ite_true, ite_false, Int.cast_ofNat_Int, Int.reduceAdd, Int.reduceSub, Int.reduceEq, Int.reduceLT, Int.reduceLE, Int.natCast_add, Nat.reduceEqDiff, Nat.reduceAdd, Nat.add_zero, Nat.zero_add, Nat.succ_ne_zero, not_true_eq_false, not_false_eq_true, Option.getD_some, Option.getD_none]
      have := hq M' (by simpa [ptToks] using hr) hfx
      simpa using this
    | cons p ps ih =>
      intro acc pre' y M' hok hr hL' hlen htk hfx hq
      have pok := hok p (by simp)
      obtain ⟨sg, pt⟩ := p
      simp only [List.map_cons, for_cons, st_Reader_body_6, k_ARMS, mn_taken, m_Reader_taken, mn_body, m_Reader_body, mn_number, m_Reader_number, dn, recv_ref hL', cls_app, BM.w, ins_rd hr, Prod.mk.injEq, dX, dXs, dXo, dXi, dSc, d2, d1, dN, dVar, dC, dTup, dLst, dTru, dB, dChain, dIte, dNotV, dNotT, dJoinV, dJoinT, dNil, dCons, dCall, dBM, dIsi, dIsi2, dAttr, dMeth, dNew, dDget, dDin, dDnew, dKidx, dKin, dKget, dDisp, dFrz, dSlice, dNoPart, dPart, dAsg, dExpr, dRet, dIf, dFld, dSet, dDput, dNever, dFor, dNext, binP, cmpP, iSeqD, iRg1, iRg2, iZip, iEnumD, Tg.asg, setAll, List.set, List.map_cons, List.map_nil, subW, modW, fdivW, powW, ltW, leW, gtW, geW, newL, finD, frzO, tupW, listW, oneW, twoW, BI.w, ints_eq, add_int, add_str, add_tup, add_lst, mul_int, mul_lst, idx_tup, idx_lst, idx_scr, idx_str, len_tup, len_lst, len_scr, len_str, sl_tup, sl_lst, neg_int, str_int, str_str, int_int, int_bl, is_non, is_int, is_str, is_tup, is_lst, is_bl, is_bb, eq_int, eq_str, eq_bl, ne_int, ne_str, ne_bl, eq_nilL, ty_non, ty_bl, ty_int, ty_str, ty_tup, ty_lst, ty_scr, ty_dk, Ty.sub, tr_bl, tr_non, tr_int, tr_str, sv_lst, sv_tup, sv_scr, lv_lst, at0, at1, at2, cut1, len0, ss_nil, for_nil, for_cons, pairs_cons, pairs_nil, pairs_nil', walk_lst, walk_scr, walk_tup, walk_str, walk_ref, List.getElem?_cons_zero, List.getElem?_cons_succ, List.length_cons, List.length_nil, List.append_nil, List.cons_append, List.nil_append, Option.some.injEq, W.int.injEq, W.str.injEq, W.bl.injEq, W.tup.injEq, W.lst.injEq, W.ref.injEq, List.cons.injEq, Option.map_some, exists_and_left, exists_and_right, exists_eq_left, exists_eq_left', exists_eq, exists_eq', exists_eq_right, exists_eq_right', and_true, true_and, and_assoc, reduceIte, reduceCtorEq, decide_true, decide_false, decide_eq_true_eq, decide_eq_false_iff_not, Bool.not_eq_true', Bool.not_eq_false', Bool.true_eq_false, Bool.false_eq_true, if_true, if_false, Bool.not_true, Bool.not_false, ite_true, ite_false, Int.cast_ofNat_Int, Int.reduceAdd, Int.reduceSub, Int.reduceEq, Int.reduceLT, Int.reduceLE, Int.natCast_add, Nat.reduceEqDiff, Nat.reduceAdd, Nat.add_zero, Nat.zero_add, Nat.succ_ne_zero, not_true_eq_false, not_false_eq_true, Option.getD_some, Option.getD_none]
      cases pt with
      | nu n =>
        have pok : n ≤ 99 ∧ sg ≠ "x" := pok
        simp only [pok.2, if_false]
        refine ⟨not_name _ (by simp), use_number hr (by rw [htk]; simp [ptToks, Pt.toks]) pok.1 (by omega) fun M2 hr2 fx2 => ?_⟩
        have hL2 := fx2 L _ hL' (Ne.symm nL)
        rw [app_ref hL2]
        refine ⟨Nat.lt_of_le_of_lt (by simp at hlen; omega : acc.length ≤ 10) (by decide), ih (acc ++ [.int n]) (pre' ++ [numS n]) _ _ (fun p hp => hok p (List.mem_cons_of_mem _ hp)) ?_ mup_at (by simp at hlen ⊢; omega) (by rw [htk]; simp [ptToks, Pt.toks]) (fun c o hc h3 => ?_) fun M'' hr3 fx3 => ?_⟩
        · rw [List.length_append]
          exact hr2.up nL
        · rw [mup_off (fun z => ?_)]
          · exact fx2 c o (hfx c o hc h3) h3
          · have := f1 c o hc h3
            rw [z, hL] at this
            cases this
        · have := hq M'' (by simpa [ptToks, Pt.toks, Nat.add_assoc, Nat.add_comm, Nat.add_left_comm] using hr3) fx3
          simpa [Pt.enc] using this
      | bd c =>
        have pok : c.ok m ∧ c.ht + 2 ≤ k ∧ sg = "x" := pok
        simp only [pok.2.2, if_true]
        refine ⟨not_name _ (by simp), use_rbody pre' (ptToks ps ++ post) hr rfl (by rw [htk]; simp [ptToks, Pt.toks]) pok.1 hm pok.2.1 fun M2 hr2 fx2 => ?_⟩
        have hL2 := fx2 L _ hL' (Ne.symm nL)
        rw [app_ref hL2]
        refine ⟨Nat.lt_of_le_of_lt (by simp at hlen; omega : acc.length ≤ 10) (by decide), ih (acc ++ [c.enc]) (pre' ++ c.toks) _ _ (fun p hp => hok p (List.mem_cons_of_mem _ hp)) ?_ mup_at (by simp at hlen ⊢; omega) (by rw [htk]; simp [ptToks, Pt.toks]) (fun d o hc h3 => ?_) fun M'' hr3 fx3 => ?_⟩
        · rw [List.length_append]
          exact hr2.up nL
        · rw [mup_off (fun z => ?_)]
          · exact fx2 d o (hfx d o hc h3) h3
          · have := f1 d o hc h3
            rw [z, hL] at this
            cases this
        · have := hq M'' (by simpa [ptToks, Pt.toks, Nat.add_assoc, Nat.add_comm, Nat.add_left_comm] using hr3) fx3
          simpa [Pt.enc] using this
  refine key b.pts [.str b.word] (pre ++ [b.word]) none _ (Bd.pts_ok hm ok hk) (by rw [List.length_append]; exact h2) mup_at (by have := b.pts_len; simp; omega) (by rw [ht, b.toks_pts]; simp) f2 fun M'' hr3 fx3 => ?_
  have := q M'' (by rw [b.toks_pts]; simpa [Nat.add_assoc, Nat.add_comm, Nat.add_left_comm] using hr3) fx3
  rw [b.enc_pts] at this
  exact this
end WL
namespace WL
open PySem L2
def Free (t : Str) : Prop := 32 ∉ TL.tl t ∧ 10 ∉ TL.tl t
theorem free_num (n : Nat) : Free (numS n) := by
  unfold Free numS
  rw [TL.tl_num]
  exact ⟨TL.numL_free (by decide), TL.numL_free (by decide)⟩
theorem free_w {t : Str} (h : ((TL.tl t).contains 32 || (TL.tl t).contains 10) = false) : Free t := by
  rw [Bool.or_eq_false_iff] at h
  exact ⟨fun z => (by rw [List.contains_iff_mem.mpr z] at h; cases h.1), fun z => (by rw [List.contains_iff_mem.mpr z] at h; cases h.2)⟩
theorem Bd.word_free (b : Bd) : Free b.word := by cases b <;> exact free_w rfl
theorem Bd.toks_free : ∀ b : Bd, ∀ t ∈ b.toks, Free t
  | .num n, t, h => by
    rcases List.mem_cons.mp h with rfl | h
    · exact (Bd.num n).word_free
    · rw [List.mem_singleton.mp h]; exact free_num n
  | .arg, t, h => by rw [List.mem_singleton.mp h]; exact Bd.arg.word_free
  | .way n, t, h => by
    rcases List.mem_cons.mp h with rfl | h
    · exact (Bd.way n).word_free
    · rw [List.mem_singleton.mp h]; exact free_num n
  | .plus a b, t, h => by
    rcases List.mem_cons.mp h with rfl | h
    · exact (Bd.plus a b).word_free
    · rcases List.mem_append.mp h with h | h
      · exact a.toks_free t h
      · exact b.toks_free t h
  | .less a b, t, h => by
    rcases List.mem_cons.mp h with rfl | h
    · exact (Bd.less a b).word_free
    · rcases List.mem_append.mp h with h | h
      · exact a.toks_free t h
      · exact b.toks_free t h
  | .times a b, t, h => by
    rcases List.mem_cons.mp h with rfl | h
    · exact (Bd.times a b).word_free
    · rcases List.mem_append.mp h with h | h
      · exact a.toks_free t h
      · exact b.toks_free t h
  | .iff a b c, t, h => by
    rcases List.mem_cons.mp h with rfl | h
    · exact (Bd.iff a b c).word_free
    · rcases List.mem_append.mp h with h | h
      · exact a.toks_free t h
      · rcases List.mem_append.mp h with h | h
        · exact b.toks_free t h
        · exact c.toks_free t h
  | .thn a b, t, h => by
    rcases List.mem_cons.mp h with rfl | h
    · exact (Bd.thn a b).word_free
    · rcases List.mem_append.mp h with h | h
      · exact a.toks_free t h
      · exact b.toks_free t h
  | .say a, t, h => by
    rcases List.mem_cons.mp h with rfl | h
    · exact (Bd.say a).word_free
    · exact a.toks_free t h
  | .call f a, t, h => by
    rcases List.mem_cons.mp h with rfl | h
    · exact (Bd.call f a).word_free
    · rcases List.mem_cons.mp h with rfl | h
      · exact free_num f
      · exact a.toks_free t h
  | .thr a b, t, h => by
    rcases List.mem_cons.mp h with rfl | h
    · exact (Bd.thr a b).word_free
    · rcases List.mem_append.mp h with h | h
      · exact a.toks_free t h
      · exact b.toks_free t h
theorem line_free (f : Nat × Bd) : ∀ t ∈ lineT f, Free t := fun t h => by
  rcases List.mem_cons.mp h with rfl | h
  · exact free_num _
  · exact f.2.toks_free t h
theorem mem_joinL {S : List Nat} {s : Nat} : ∀ {ps : List (List Nat)}, s ∈ TL.joinL S ps → s ∈ S ∨ ∃ p ∈ ps, s ∈ p
  | [], h => by simp [TL.joinL] at h
  | [p], h => .inr ⟨p, by simp, h⟩
  | p :: q :: r, h => by
    rcases List.mem_append.mp h with h | h
    · exact .inr ⟨p, by simp, h⟩
    · rcases List.mem_append.mp h with h | h
      · exact .inl h
      · rcases mem_joinL h with h | ⟨z, hz, h⟩
        · exact .inl h
        · exact .inr ⟨z, List.mem_cons_of_mem _ hz, h⟩
theorem lineS_free (f : Nat × Bd) : 10 ∉ TL.tl (lineS f) := fun h => by
  unfold lineS at h
  rw [TL.join_eq, TL.tl_join] at h
  rcases mem_joinL h with h | ⟨p, hp, h⟩
  · have e : TL.tl (Str.ofString " ") = [32] := rfl
    rw [e] at h
    simp at h
  · obtain ⟨t, ht, rfl⟩ := List.mem_map.mp hp
    exact (line_free f t ht).2 h
theorem split_line (f : Nat × Bd) : Txt.split (lineS f) " " = lineT f :=
  TL.split_join (s := 32) (S := []) rfl (by decide +kernel) (by simp [lineT]) fun p hp => (line_free f p hp).1
theorem split_prog {p : List (Nat × Bd)} (h : p ≠ []) : Txt.split (progT p) "\n" = p.map lineS :=
  TL.split_join (s := 10) (S := []) rfl (by decide +kernel) (by simpa using h) fun q hq => by
    obtain ⟨f, _, rfl⟩ := List.mem_map.mp hq
    exact lineS_free f
def sp_Reader_a_function : Nat → Wp := fun k ws M Q _ => ∃ (x : Addr) (row : Int) (f : Nat × Bd) (m : Nat), ws = [.ref x] ∧ Rd x row (lineT f) 0 M ∧ FOk m f ∧ m ≤ 99 ∧ 9 ≤ k ∧ ∀ M', Fx1 x M M' → Q (encF f) M'
theorem keep_Reader_a_function {Γ : Gam} {k : Nat} (mn_number : Γ.meN 20 = "number") (m_Reader_number : Γ.me 22 20 = some (dn sp_Reader_number k)) (mn_body : Γ.meN 21 = "body") (m_Reader_body : Γ.me 22 21 = some (dn sp_Reader_body k)) : KeepC Γ n_Reader_a_function 1 c_Reader_a_function (sp_Reader_a_function k) := by
  rintro ws M Q Ex ⟨x, row, f, m, rfl, hx, ok, hm, hk, q⟩
  refine ⟨rfl, ?_⟩
  show dSs Γ _ _ [some (.ref x), none] M
  cases k with
  | zero => omega
  | succ k =>
  simp only [st_Reader_a_function, mn_number, m_Reader_number, mn_body, m_Reader_body, dn, ins_rd hx, Prod.mk.injEq, dX, dXs, dXo, dXi, dSc, d2, d1, dN, dVar, dC, dTup, dLst, dTru, dB, dChain, dIte, dNotV, dNotT, dJoinV, dJoinT, dNil, dCons, dCall, dBM, dIsi, dIsi2, dAttr, dMeth, dNew, dDget, dDin, dDnew, dKidx, dKin, dKget, dDisp, dFrz, dSlice, dNoPart, dPart, dAsg, dExpr, dRet, dIf, dFld, dSet, dDput, dNever, dFor, dNext, binP, cmpP, iSeqD, iRg1, iRg2, iZip, iEnumD, Tg.asg, setAll, List.set, List.map_cons, List.map_nil, subW, modW, fdivW, powW, ltW, leW, gtW, geW, newL, finD, frzO, tupW, listW, oneW, twoW, BI.w, ints_eq, add_int, add_str, add_tup, add_lst, mul_int, mul_lst, idx_tup, idx_lst, idx_scr, idx_str, len_tup, len_lst, len_scr, len_str, sl_tup, sl_lst, neg_int, str_int, str_str, int_int, int_bl, is_non, is_int, is_str, is_tup, is_lst, is_bl, is_bb, eq_int, eq_str, eq_bl, ne_int, ne_str, ne_bl, eq_nilL, ty_non, ty_bl, ty_int, ty_str, ty_tup, ty_lst, ty_scr, ty_dk, Ty.sub, tr_bl, tr_non, tr_int, tr_str, sv_lst, sv_tup, sv_scr, lv_lst, at0, at1, at2, cut1, len0, ss_nil, for_nil, for_cons, pairs_cons, pairs_nil, pairs_nil', walk_lst, walk_scr, walk_tup, walk_str, walk_ref, List.getElem?_cons_zero, List.getElem?_cons_succ, List.length_cons, List.length_nil, List.append_nil, List.cons_append, List.nil_append, Option.some.injEq, W.int.injEq, W.str.injEq, W.bl.injEq, W.tup.injEq, W.lst.injEq, W.ref.injEq, List.cons.injEq, Option.map_some, exists_and_left, exists_and_right, exists_eq_left, exists_eq_left', exists_eq, exists_eq', exists_eq_right, exists_eq_right', and_true, true_and, and_assoc, reduceIte, reduceCtorEq, decide_true, decide_false, decide_eq_true_eq, decide_eq_false_iff_not, Bool.not_eq_true', Bool.not_eq_false', Bool.true_eq_false, Bool.false_eq_true, if_true, if_false, Bool.not_true, Bool.not_false, ite_true, ite_false, Int.cast_ofNat_Int, Int.reduceAdd, Int.reduceSub, Int.reduceEq, Int.reduceLT, Int.reduceLE, Int.natCast_add, Nat.reduceEqDiff, Nat.reduceAdd, Nat.add_zero, Nat.zero_add, Nat.succ_ne_zero, not_true_eq_false, not_false_eq_true, Option.getD_some, Option.getD_none]
  refine ⟨not_name _ (by simp), use_number hx rfl (by have := ok.s8; omega) (by omega) fun M1 h1 f1 => ?_⟩
  simp only [ins_rd h1, Prod.mk.injEq, mn_number, m_Reader_number, mn_body, m_Reader_body, dn, dX, dXs, dXo, dXi, dSc, d2, d1, dN, dVar, dC, dTup, dLst, dTru, dB, dChain, dIte, dNotV, dNotT, dJoinV, dJoinT, dNil, dCons, dCall, dBM, dIsi, dIsi2, dAttr, dMeth, dNew, dDget, dDin, dDnew, dKidx, dKin, dKget, dDisp, dFrz, dSlice, dNoPart, dPart, dAsg, dExpr, dRet, dIf, dFld, dSet, dDput, dNever, dFor, dNext, binP, cmpP, iSeqD, iRg1, iRg2, iZip, iEnumD, Tg.asg, setAll, List.set, List.map_cons, List.map_nil, subW, modW, fdivW, powW, ltW, leW, gtW, geW, newL, finD, frzO, tupW, listW, oneW, twoW, BI.w, ints_eq, add_int, add_str, add_tup, add_lst, mul_int, mul_lst, idx_tup, idx_lst, idx_scr, idx_str, len_tup, len_lst, len_scr, len_str, sl_tup, sl_lst, neg_int, str_int, str_str, int_int, int_bl, is_non, is_int, is_str, is_tup, is_lst, is_bl, is_bb, eq_int, eq_str, eq_bl, ne_int, ne_str, ne_bl, eq_nilL, ty_non, ty_bl, ty_int, ty_str, ty_tup, ty_lst, ty_scr, ty_dk, Ty.sub, tr_bl, tr_non, tr_int, tr_str, sv_lst, sv_tup, sv_scr, lv_lst, at0, at1, at2, cut1, len0, ss_nil, for_nil, for_cons, pairs_cons, pairs_nil, pairs_nil', walk_lst, walk_scr, walk_tup, walk_str, walk_ref, List.getElem?_cons_zero, List.getElem?_cons_succ, List.length_cons, List.length_nil, List.append_nil, List.cons_append, List.nil_append, Option.some.injEq, W.int.injEq, W.str.injEq, W.bl.injEq, W.tup.injEq, W.lst.injEq, W.ref.injEq, List.cons.injEq, Option.map_some, exists_and_left, exists_and_right, exists_eq_left, exists_eq_left', exists_eq, exists_eq', exists_eq_right, exists_eq_right', and_true, true_and, and_assoc, reduceIte, reduceCtorEq, decide_true, decide_false, decide_eq_true_eq, decide_eq_false_iff_not, Bool.not_eq_true', Bool.not_eq_false', Bool.true_eq_false, Bool.false_eq_true, if_true, if_false, Bool.not_true, Bool.not_false, ite_true, ite_false, Int.cast_ofNat_Int, Int.reduceAdd, Int.reduceSub, Int.reduceEq, Int.reduceLT, Int.reduceLE, Int.natCast_add, Nat.reduceEqDiff, Nat.reduceAdd, Nat.add_zero, Nat.zero_add, Nat.succ_ne_zero, not_true_eq_false, not_false_eq_true, Option.getD_some, Option.getD_none]
  refine ⟨not_name _ (by simp), use_rbody [numS f.1] [] h1 rfl (by simp [lineT]) ok.ok hm (by have := ok.ht; omega) fun M2 h2 f2 => ?_⟩
  have hn : ¬ (1 + (f.2.toks.length : Int) < ((lineT f).length : Int)) := by simp [lineT]; omega
  simp only [st_Reader_a_function_1, fld_at h2, fld_words h2, List.length_map, st_Reader_a_function_2, dX, dXs, dXo, dXi, dSc, d2, d1, dN, dVar, dC, dTup, dLst, dTru, dB, dChain, dIte, dNotV, dNotT, dJoinV, dJoinT, dNil, dCons, dCall, dBM, dIsi, dIsi2, dAttr, dMeth, dNew, dDget, dDin, dDnew, dKidx, dKin, dKget, dDisp, dFrz, dSlice, dNoPart, dPart, dAsg, dExpr, dRet, dIf, dFld, dSet, dDput, dNever, dFor, dNext, binP, cmpP, iSeqD, iRg1, iRg2, iZip, iEnumD, Tg.asg, setAll, List.set, List.map_cons, List.map_nil, subW, modW, fdivW, powW, ltW, leW, gtW, geW, newL, finD, frzO, tupW, listW, oneW, twoW, BI.w, ints_eq, add_int, add_str, add_tup, add_lst, mul_int, mul_lst, idx_tup, idx_lst, idx_scr, idx_str, len_tup, len_lst, len_scr, len_str, sl_tup, sl_lst, neg_int, str_int, str_str, int_int, int_bl, is_non, is_int, is_str, is_tup, is_lst, is_bl, is_bb, eq_int, eq_str, eq_bl, ne_int, ne_str, ne_bl, eq_nilL, ty_non, ty_bl, ty_int, ty_str, ty_tup, ty_lst, ty_scr, ty_dk, Ty.sub, tr_bl, tr_non, tr_int, tr_str, sv_lst, sv_tup, sv_scr, lv_lst, at0, at1, at2, cut1, len0, ss_nil, for_nil, for_cons, pairs_cons, pairs_nil, pairs_nil', walk_lst, walk_scr, walk_tup, walk_str, walk_ref, List.getElem?_cons_zero, List.getElem?_cons_succ, List.length_cons, List.length_nil, List.append_nil, List.cons_append, List.nil_append, Option.some.injEq, W.int.injEq, W.str.injEq, W.bl.injEq, W.tup.injEq, W.lst.injEq, W.ref.injEq, List.cons.injEq, Option.map_some, exists_and_left, exists_and_right, exists_eq_left, exists_eq_left', exists_eq, exists_eq', exists_eq_right, exists_eq_right', and_true, true_and, and_assoc, reduceIte, reduceCtorEq, decide_true, decide_false, decide_eq_true_eq, decide_eq_false_iff_not, Bool.not_eq_true', Bool.not_eq_false', Bool.true_eq_false, Bool.false_eq_true, if_true, if_false, Bool.not_true, Bool.not_false, ite_true, ite_false, Int.cast_ofNat_Int, Int.reduceAdd, Int.reduceSub, Int.reduceEq, Int.reduceLT, Int.reduceLE, Int.natCast_add, Nat.reduceEqDiff, Nat.reduceAdd, Nat.add_zero, Nat.zero_add, Nat.succ_ne_zero, not_true_eq_false, not_false_eq_true, Option.getD_some, Option.getD_none]
  refine ⟨by decide, ?_⟩
  rw [if_neg hn]
  exact q M2 (f1.trans f2)
def Fr0 (M M' : Mh) : Prop := ∀ b o, M b = some o → M' b = some o
theorem enums_getI {as : List W} {i : Nat} {w : W} (h : (enums 0 as)[i]? = some w) : ∃ a, as[i]? = some a ∧ w = .tup [.int i, a] := by
  obtain ⟨a, h1, h2⟩ := enums_get h
  exact ⟨a, h1, by rw [h2, Nat.zero_add]⟩
def sp_read : Nat → Wp := fun k ws M Q _ => ∃ p : List (Nat × Bd), ws = [.str (progT p)] ∧ PrOk p ∧ 12 ≤ k ∧ ∀ M', Fr0 M M' → Q (encP p) M'
theorem keep_read {Γ : Gam} {k : Nat} (f_need_program : Γ.fn 3 = dn sp_need_program k) (mn_a_function : Γ.meN 22 = "a_function") (m_Reader_a_function : Γ.me 22 22 = some (dn sp_Reader_a_function k)) (i_Reader : Γ.ini 22 = dn2 sp_Reader_ini k) : KeepC Γ n_read 1 c_read (sp_read k) := by
  rintro ws M Q Ex ⟨p, rfl, ok, hk, q⟩
  refine ⟨rfl, ?_⟩
  show dSs Γ _ _ [some (.str (progT p)), none, none, none] M
  obtain ⟨k, rfl⟩ : ∃ j, k = j + 2 := ⟨k - 2, by omega⟩
  have hp : p ≠ [] := fun z => by have := ok.l1; rw [z] at this; cases this
  have hs : splitW false (.str (progT p)) [.str "\n"] = fun M Q => Q (.lst ((p.map lineS).map W.str)) M := by
    funext M Q
    show ((Str.length "\n" == 0) = false ∧ (progT p).length + 2 ≤ sizeLine ∧ newL false ((Txt.split (progT p) "\n").map W.str) M Q) = _
    rw [split_prog hp]
    have e1 : (Str.length "\n" == 0) = false := rfl
    have e2 : (progT p).length + 2 ≤ sizeLine := szl (by have := prog_len ok; omega)
    simp [e1, e2, newL]
  have h8 := ok.l8
  simp only [st_read, st_read_1, f_need_program, mn_a_function, m_Reader_a_function, i_Reader, dn, BM.recv, BM.w, dX, dXs, dXo, dXi, dSc, d2, d1, dN, dVar, dC, dTup, dLst, dTru, dB, dChain, dIte, dNotV, dNotT, dJoinV, dJoinT, dNil, dCons, dCall, dBM, dIsi, dIsi2, dAttr, dMeth, dNew, dDget, dDin, dDnew, dKidx, dKin, dKget, dDisp, dFrz, dSlice, dNoPart, dPart, dAsg, dExpr, dRet, dIf, dFld, dSet, dDput, dNever, dFor, dNext, binP, cmpP, iSeqD, iRg1, iRg2, iZip, iEnumD, Tg.asg, setAll, List.set, List.map_cons, List.map_nil, subW, modW, fdivW, powW, ltW, leW, gtW, geW, newL, finD, frzO, tupW, listW, oneW, twoW, BI.w, ints_eq, add_int, add_str, add_tup, add_lst, mul_int, mul_lst, idx_tup, idx_lst, idx_scr, idx_str, len_tup, len_lst, len_scr, len_str, sl_tup, sl_lst, neg_int, str_int, str_str, int_int, int_bl, is_non, is_int, is_str, is_tup, is_lst, is_bl, is_bb, eq_int, eq_str, eq_bl, ne_int, ne_str, ne_bl, eq_nilL, ty_non, ty_bl, ty_int, ty_str, ty_tup, ty_lst, ty_scr, ty_dk, Ty.sub, tr_bl, tr_non, tr_int, tr_str, sv_lst, sv_tup, sv_scr, lv_lst, at0, at1, at2, cut1, len0, ss_nil, for_nil, for_cons, pairs_cons, pairs_nil, pairs_nil', walk_lst, walk_scr, walk_tup, walk_str, walk_ref, List.getElem?_cons_zero, List.getElem?_cons_succ, List.length_cons, List.length_nil, List.append_nil, List.cons_append, List.nil_append, Option.some.injEq, W.int.injEq, W.str.injEq, W.bl.injEq, W.tup.injEq, W.lst.injEq, W.ref.injEq, List.cons.injEq, Option.map_some, exists_and_left, exists_and_right, exists_eq_left, exists_eq_left', exists_eq, exists_eq', exists_eq_right, exists_eq_right', and_true, true_and, and_assoc, reduceIte, reduceCtorEq, decide_true, decide_false, decide_eq_true_eq, decide_eq_false_iff_not, Bool.not_eq_true', Bool.not_eq_false', Bool.true_eq_false, Bool.false_eq_true, if_true, if_false, Bool.not_true, Bool.not_false, ite_true, ite_false, Int.cast_ofNat_Int, Int.reduceAdd, Int.reduceSub, Int.reduceEq, Int.reduceLT, Int.reduceLE, Int.natCast_add, Nat.reduceEqDiff, Nat.reduceAdd, Nat.add_zero, Nat.zero_add, Nat.succ_ne_zero, not_true_eq_false, not_false_eq_true, Option.getD_some, Option.getD_none]
  intro L hL
  refine ⟨rfl, ?_⟩
  rw [hs]
  simp only [dX, dXs, dXo, dXi, dSc, d2, d1, dN, dVar, dC, dTup, dLst, dTru, dB, dChain, dIte, dNotV, dNotT, dJoinV, dJoinT, dNil, dCons, dCall, dBM, dIsi, dIsi2, dAttr, dMeth, dNew, dDget, dDin, dDnew, dKidx, dKin, dKget, dDisp, dFrz, dSlice, dNoPart, dPart, dAsg, dExpr, dRet, dIf, dFld, dSet, dDput, dNever, dFor, dNext, binP, cmpP, iSeqD, iRg1, iRg2, iZip, iEnumD, Tg.asg, setAll, List.set, List.map_cons, List.map_nil, subW, modW, fdivW, powW, ltW, leW, gtW, geW, newL, finD, frzO, tupW, listW, oneW, twoW, BI.w, ints_eq, add_int, add_str, add_tup, add_lst, mul_int, mul_lst, idx_tup, idx_lst, idx_scr, idx_str, len_tup, len_lst, len_scr, len_str, sl_tup, sl_lst, neg_int, str_int, str_str, int_int, int_bl, is_non, is_int, is_str, is_tup, is_lst, is_bl, is_bb, eq_int, eq_str, eq_bl, ne_int, ne_str, ne_bl, eq_nilL, ty_non, ty_bl, ty_int, ty_str, ty_tup, ty_lst, ty_scr, ty_dk, Ty.sub, tr_bl, tr_non, tr_int, tr_str, sv_lst, sv_tup, sv_scr, lv_lst, at0, at1, at2, cut1, len0, ss_nil, for_nil, for_cons, pairs_cons, pairs_nil, pairs_nil', walk_lst, walk_scr, walk_tup, walk_str, walk_ref, List.getElem?_cons_zero, List.getElem?_cons_succ, List.length_cons, List.length_nil, List.append_nil, List.cons_append, List.nil_append, Option.some.injEq, W.int.injEq, W.str.injEq, W.bl.injEq, W.tup.injEq, W.lst.injEq, W.ref.injEq, List.cons.injEq, Option.map_some, exists_and_left, exists_and_right, exists_eq_left, exists_eq_left', exists_eq, exists_eq', exists_eq_right, exists_eq_right', and_true, true_and, and_assoc, reduceIte, reduceCtorEq, decide_true, decide_false, decide_eq_true_eq, decide_eq_false_iff_not, Bool.not_eq_true', Bool.not_eq_false', Bool.true_eq_false, Bool.false_eq_true, if_true, if_false, Bool.not_true, Bool.not_false, ite_true, ite_false, Int.cast_ofNat_Int, Int.reduceAdd, Int.reduceSub, Int.reduceEq, Int.reduceLT, Int.reduceLE, Int.natCast_add, Nat.reduceEqDiff, Nat.reduceAdd, Nat.add_zero, Nat.zero_add, Nat.succ_ne_zero, not_true_eq_false, not_false_eq_true, Option.getD_some, Option.getD_none]
  refine for_inv (fun i σ M' => (∃ (y z : Option W), σ = [some (.str (progT p)), some (.ref L), y, z]) ∧ M' L = some (.lst ((p.take i).map encF)) ∧ Fr0 M M') (fun _ _ _ _ => trivial) _ 0 ⟨⟨_, _, rfl⟩, by rw [mup_at]; rfl, fun c o hc => by rw [mup_off (fun z => by rw [z, hL] at hc; cases hc)]; exact hc⟩ (fun i x σ M' K e h hK => ?_) (fun σ M' h => ?_)
  · obtain ⟨⟨y, z, rfl⟩, hL', fr⟩ := h
    obtain ⟨t, ht, rfl⟩ := enums_getI e
    rw [List.getElem?_map, List.getElem?_map] at ht
    have hi : i < p.length := by
      cases e3 : p[i]? with
      | none => rw [e3] at ht; cases ht
      | some f => exact (List.getElem?_eq_some_iff.mp e3).1
    have e3 : p[i]? = some p[i] := List.getElem?_eq_getElem hi
    rw [e3] at ht
    cases ht
    have fo := ok.ok p[i] (List.getElem_mem hi)
    have hl : splitW false (.str (lineS p[i])) [.str " "] = fun M Q => Q (.lst ((lineT p[i]).map W.str)) M := by
      funext M Q
      show ((Str.length " " == 0) = false ∧ (lineS p[i]).length + 2 ≤ sizeLine ∧ newL false ((Txt.split (lineS p[i]) " ").map W.str) M Q) = _
      rw [split_line]
      have e1 : (Str.length " " == 0) = false := rfl
      have e2 : (lineS p[i]).length + 2 ≤ sizeLine := szl (by have := line_len (by omega) fo; omega)
      simp [e1, e2, newL]
    rw [Nat.zero_add] at hL'
    simp only [st_read_4, BM.recv, BM.w, f_need_program, mn_a_function, m_Reader_a_function, i_Reader, dn, dX, dXs, dXo, dXi, dSc, d2, d1, dN, dVar, dC, dTup, dLst, dTru, dB, dChain, dIte, dNotV, dNotT, dJoinV, dJoinT, dNil, dCons, dCall, dBM, dIsi, dIsi2, dAttr, dMeth, dNew, dDget, dDin, dDnew, dKidx, dKin, dKget, dDisp, dFrz, dSlice, dNoPart, dPart, dAsg, dExpr, dRet, dIf, dFld, dSet, dDput, dNever, dFor, dNext, binP, cmpP, iSeqD, iRg1, iRg2, iZip, iEnumD, Tg.asg, setAll, List.set, List.map_cons, List.map_nil, subW, modW, fdivW, powW, ltW, leW, gtW, geW, newL, finD, frzO, tupW, listW, oneW, twoW, BI.w, ints_eq, add_int, add_str, add_tup, add_lst, mul_int, mul_lst, idx_tup, idx_lst, idx_scr, idx_str, len_tup, len_lst, len_scr, len_str, sl_tup, sl_lst, neg_int, str_int, str_str, int_int, int_bl, is_non, is_int, is_str, is_tup, is_lst, is_bl, is_bb, eq_int, eq_str, eq_bl, ne_int, ne_str, ne_bl, eq_nilL, ty_non, ty_bl, ty_int, ty_str, ty_tup, ty_lst, ty_scr, ty_dk, Ty.sub, tr_bl, tr_non, tr_int, tr_str, sv_lst, sv_tup, sv_scr, lv_lst, at0, at1, at2, cut1, len0, ss_nil, for_nil, for_cons, pairs_cons, pairs_nil, pairs_nil', walk_lst, walk_scr, walk_tup, walk_str, walk_ref, List.getElem?_cons_zero, List.getElem?_cons_succ, List.length_cons, List.length_nil, List.append_nil, List.cons_append, List.nil_append, Option.some.injEq, W.int.injEq, W.str.injEq, W.bl.injEq, W.tup.injEq, W.lst.injEq, W.ref.injEq, List.cons.injEq, Option.map_some, exists_and_left, exists_and_right, exists_eq_left, exists_eq_left', exists_eq, exists_eq', exists_eq_right, exists_eq_right', and_true, true_and, and_assoc, reduceIte, reduceCtorEq, decide_true, decide_false, decide_eq_true_eq, decide_eq_false_iff_not, Bool.not_eq_true', Bool.not_eq_false', Bool.true_eq_false, Bool.false_eq_true, if_true, if_false, Bool.not_true, Bool.not_false, ite_true, ite_false, Int.cast_ofNat_Int, Int.reduceAdd, Int.reduceSub, Int.reduceEq, Int.reduceLT, Int.reduceLE, Int.natCast_add, Nat.reduceEqDiff, Nat.reduceAdd, Nat.add_zero, Nat.zero_add, Nat.succ_ne_zero, not_true_eq_false, not_false_eq_true, Option.getD_some, Option.getD_none, hl]
    refine ⟨rfl, ⟨_, hL'⟩, rfl, fun x hx => ⟨x, i, lineT p[i], rfl, mup_at, fun M2 h2 f2 => ?_⟩⟩
    simp only [insQ, ins_rd h2, Prod.mk.injEq, f_need_program, mn_a_function, m_Reader_a_function, i_Reader, dn, dX, dXs, dXo, dXi, dSc, d2, d1, dN, dVar, dC, dTup, dLst, dTru, dB, dChain, dIte, dNotV, dNotT, dJoinV, dJoinT, dNil, dCons, dCall, dBM, dIsi, dIsi2, dAttr, dMeth, dNew, dDget, dDin, dDnew, dKidx, dKin, dKget, dDisp, dFrz, dSlice, dNoPart, dPart, dAsg, dExpr, dRet, dIf, dFld, dSet, dDput, dNever, dFor, dNext, binP, cmpP, iSeqD, iRg1, iRg2, iZip, iEnumD, Tg.asg, setAll, List.set, List.map_cons, List.map_nil, subW, modW, fdivW, powW, ltW, leW, gtW, geW, newL, finD, frzO, tupW, listW, oneW, twoW, BI.w, ints_eq, add_int, add_str, add_tup, add_lst, mul_int, mul_lst, idx_tup, idx_lst, idx_scr, idx_str, len_tup, len_lst, len_scr, len_str, sl_tup, sl_lst, neg_int, str_int, str_str, int_int, int_bl, is_non, is_int, is_str, is_tup, is_lst, is_bl, is_bb, eq_int, eq_str, eq_bl, ne_int, ne_str, ne_bl, eq_nilL, ty_non, ty_bl, ty_int, ty_str, ty_tup, ty_lst, ty_scr, ty_dk, Ty.sub, tr_bl, tr_non, tr_int, tr_str, sv_lst, sv_tup, sv_scr, lv_lst, at0, at1, at2, cut1, len0, ss_nil, for_nil, for_cons, pairs_cons, pairs_nil, pairs_nil', walk_lst, walk_scr, walk_tup, walk_str, walk_ref, List.getElem?_cons_zero, List.getElem?_cons_succ, List.length_cons, List.length_nil, List.append_nil, List.cons_append, List.nil_append, Option.some.injEq, W.int.injEq, W.str.injEq, W.bl.injEq, W.tup.injEq, W.lst.injEq, W.ref.injEq, List.cons.injEq, Option.map_some, exists_and_left, exists_and_right, exists_eq_left, exists_eq_left', exists_eq, exists_eq', exists_eq_right, exists_eq_right', and_true, true_and, and_assoc, reduceIte, reduceCtorEq, decide_true, decide_false, decide_eq_true_eq, decide_eq_false_iff_not, Bool.not_eq_true', Bool.not_eq_false', Bool.true_eq_false, Bool.false_eq_true, if_true, if_false, Bool.not_true, Bool.not_false, ite_true, ite_false, Int.cast_ofNat_Int, Int.reduceAdd, Int.reduceSub, Int.reduceEq, Int.reduceLT, Int.reduceLE, Int.natCast_add, Nat.reduceEqDiff, Nat.reduceAdd, Nat.add_zero, Nat.zero_add, Nat.succ_ne_zero, not_true_eq_false, not_false_eq_true, Option.getD_some, Option.getD_none]
    have nL : L ≠ x := fun z => by rw [← z, hL'] at hx; cases hx
    refine ⟨not_name _ (by simp), x, i, p[i], p.length, rfl, h2, fo, by omega, by omega, fun M3 f3 => ?_⟩
    have hL3 := f3 L _ (f2 L _ (by rw [mup_off nL]; exact hL') nL) nL
    show appendW (.ref L) [encF p[i]] M3 _
    rw [app_ref hL3]
    refine ⟨Nat.lt_of_le_of_lt (by rw [List.length_map, List.length_take]; omega : _ ≤ 8) (by decide), hK _ _ ⟨⟨_, _, rfl⟩, ?_, fun c o hc => ?_⟩⟩
    · rw [mup_at, Nat.zero_add, List.take_succ, e3, List.map_append]
      rfl
    · have hc' := fr c o hc
      have ncx : c ≠ x := fun z => by rw [z, hx] at hc'; cases hc'
      rw [mup_off (fun z => by rw [z, hL] at hc; cases hc)]
      exact f3 c o (f2 c o (by rw [mup_off ncx]; exact hc') ncx) ncx
  · obtain ⟨⟨y, z, rfl⟩, hL', fr⟩ := h
    have el : 0 + (enums 0 ((p.map lineS).map W.str)).length = p.length := by rw [enums_length]; simp
    rw [el, List.take_length] at hL'
    simp only [st_read_2, tupW, sv_ref hL', f_need_program, mn_a_function, m_Reader_a_function, i_Reader, dn, dX, dXs, dXo, dXi, dSc, d2, d1, dN, dVar, dC, dTup, dLst, dTru, dB, dChain, dIte, dNotV, dNotT, dJoinV, dJoinT, dNil, dCons, dCall, dBM, dIsi, dIsi2, dAttr, dMeth, dNew, dDget, dDin, dDnew, dKidx, dKin, dKget, dDisp, dFrz, dSlice, dNoPart, dPart, dAsg, dExpr, dRet, dIf, dFld, dSet, dDput, dNever, dFor, dNext, binP, cmpP, iSeqD, iRg1, iRg2, iZip, iEnumD, Tg.asg, setAll, List.set, List.map_cons, List.map_nil, subW, modW, fdivW, powW, ltW, leW, gtW, geW, newL, finD, frzO, tupW, listW, oneW, twoW, BI.w, ints_eq, add_int, add_str, add_tup, add_lst, mul_int, mul_lst, idx_tup, idx_lst, idx_scr, idx_str, len_tup, len_lst, len_scr, len_str, sl_tup, sl_lst, neg_int, str_int, str_str, int_int, int_bl, is_non, is_int, is_str, is_tup, is_lst, is_bl, is_bb, eq_int, eq_str, eq_bl, ne_int, ne_str, ne_bl, eq_nilL, ty_non, ty_bl, ty_int, ty_str, ty_tup, ty_lst, ty_scr, ty_dk, Ty.sub, tr_bl, tr_non, tr_int, tr_str, sv_lst, sv_tup, sv_scr, lv_lst, at0, at1, at2, cut1, len0, ss_nil, for_nil, for_cons, pairs_cons, pairs_nil, pairs_nil', walk_lst, walk_scr, walk_tup, walk_str, walk_ref, List.getElem?_cons_zero, List.getElem?_cons_succ, List.length_cons, List.length_nil, List.append_nil, List.cons_append, List.nil_append, Option.some.injEq, W.int.injEq, W.str.injEq, W.bl.injEq, W.tup.injEq, W.lst.injEq, W.ref.injEq, List.cons.injEq, Option.map_some, exists_and_left, exists_and_right, exists_eq_left, exists_eq_left', exists_eq, exists_eq', exists_eq_right, exists_eq_right', and_true, true_and, and_assoc, reduceIte, reduceCtorEq, decide_true, decide_false, decide_eq_true_eq, decide_eq_false_iff_not, Bool.not_eq_true', Bool.not_eq_false', Bool.true_eq_false, Bool.false_eq_true, if_true, if_false, Bool.not_true, Bool.not_false, ite_true, ite_false, Int.cast_ofNat_Int, Int.reduceAdd, Int.reduceSub, Int.reduceEq, Int.reduceLT, Int.reduceLE, Int.natCast_add, Nat.reduceEqDiff, Nat.reduceAdd, Nat.add_zero, Nat.zero_add, Nat.succ_ne_zero, not_true_eq_false, not_false_eq_true, Option.getD_some, Option.getD_none]
    refine ⟨p, rfl, ok, by omega, ?_⟩
    simp only [st_read_3, tupW, sv_ref hL', dX, dXs, dXo, dXi, dSc, d2, d1, dN, dVar, dC, dTup, dLst, dTru, dB, dChain, dIte, dNotV, dNotT, dJoinV, dJoinT, dNil, dCons, dCall, dBM, dIsi, dIsi2, dAttr, dMeth, dNew, dDget, dDin, dDnew, dKidx, dKin, dKget, dDisp, dFrz, dSlice, dNoPart, dPart, dAsg, dExpr, dRet, dIf, dFld, dSet, dDput, dNever, dFor, dNext, binP, cmpP, iSeqD, iRg1, iRg2, iZip, iEnumD, Tg.asg, setAll, List.set, List.map_cons, List.map_nil, subW, modW, fdivW, powW, ltW, leW, gtW, geW, newL, finD, frzO, tupW, listW, oneW, twoW, BI.w, ints_eq, add_int, add_str, add_tup, add_lst, mul_int, mul_lst, idx_tup, idx_lst, idx_scr, idx_str, len_tup, len_lst, len_scr, len_str, sl_tup, sl_lst, neg_int, str_int, str_str, int_int, int_bl, is_non, is_int, is_str, is_tup, is_lst, is_bl, is_bb, eq_int, eq_str, eq_bl, ne_int, ne_str, ne_bl, eq_nilL, ty_non, ty_bl, ty_int, ty_str, ty_tup, ty_lst, ty_scr, ty_dk, Ty.sub, tr_bl, tr_non, tr_int, tr_str, sv_lst, sv_tup, sv_scr, lv_lst, at0, at1, at2, cut1, len0, ss_nil, for_nil, for_cons, pairs_cons, pairs_nil, pairs_nil', walk_lst, walk_scr, walk_tup, walk_str, walk_ref, List.getElem?_cons_zero, List.getElem?_cons_succ, List.length_cons, List.length_nil, List.append_nil, List.cons_append, List.nil_append, Option.some.injEq, W.int.injEq, W.str.injEq, W.bl.injEq, W.tup.injEq, W.lst.injEq, W.ref.injEq, List.cons.injEq, Option.map_some, exists_and_left, exists_and_right, exists_eq_left, exists_eq_left', exists_eq, exists_eq', exists_eq_right, exists_eq_right', and_true, true_and, and_assoc, reduceIte, reduceCtorEq, decide_true, decide_false, decide_eq_true_eq, decide_eq_false_iff_not, Bool.not_eq_true', Bool.not_eq_false', Bool.true_eq_false, Bool.false_eq_true, if_true, if_false, Bool.not_true, Bool.not_false, ite_true, ite_false, Int.cast_ofNat_Int, Int.reduceAdd, Int.reduceSub, Int.reduceEq, Int.reduceLT, Int.reduceLE, Int.natCast_add, Nat.reduceEqDiff, Nat.reduceAdd, Nat.add_zero, Nat.zero_add, Nat.succ_ne_zero, not_true_eq_false, not_false_eq_true, Option.getD_some, Option.getD_none]
    exact q M' fr
end WL
namespace WL
open PySem L2
def c_l_alike_8 : Ss := .cons (.ret (.lit (.bl false))) .nil
theorem st_l_alike_8 {Γ : Gam} {D : Dw} {σ : Sw} {M : Mh} : dSs Γ c_l_alike_8 D σ M = dSc Γ (.ret (.lit (.bl false))) { D with nx := dSs Γ .nil D } σ M := rfl
def c_l_alike_9 : Ss := .cons (.ret (.lit (.bl false))) .nil
theorem st_l_alike_9 {Γ : Gam} {D : Dw} {σ : Sw} {M : Mh} : dSs Γ c_l_alike_9 D σ M = dSc Γ (.ret (.lit (.bl false))) { D with nx := dSs Γ .nil D } σ M := rfl
def c_l_alike_7 : Ss := .cons (.ret (.cmp .Eq (.lc false (.var 2) (.name 2) (.rg1 (.blt false .len (.cons (.var 1) .nil))) (.some (.not (.call 46 (.cons (.idx (.var 0) (.var 2)) (.cons (.idx (.var 1) (.var 2)) .nil))))) [("_law_k", 2)]) (.lst false .nil))) .nil
theorem st_l_alike_7 {Γ : Gam} {D : Dw} {σ : Sw} {M : Mh} : dSs Γ c_l_alike_7 D σ M = dSc Γ (.ret (.cmp .Eq (.lc false (.var 2) (.name 2) (.rg1 (.blt false .len (.cons (.var 1) .nil))) (.some (.not (.call 46 (.cons (.idx (.var 0) (.var 2)) (.cons (.idx (.var 1) (.var 2)) .nil))))) [("_law_k", 2)]) (.lst false .nil))) { D with nx := dSs Γ .nil D } σ M := rfl
def c_l_alike_6 : Ss := .cons (.ite (.cmp .NotEq (.blt false .len (.cons (.var 0) .nil)) (.blt false .len (.cons (.var 1) .nil))) c_l_alike_9 .nil) c_l_alike_7
theorem st_l_alike_6 {Γ : Gam} {D : Dw} {σ : Sw} {M : Mh} : dSs Γ c_l_alike_6 D σ M = dSc Γ (.ite (.cmp .NotEq (.blt false .len (.cons (.var 0) .nil)) (.blt false .len (.cons (.var 1) .nil))) c_l_alike_9 .nil) { D with nx := dSs Γ c_l_alike_7 D } σ M := rfl
def c_l_alike_5 : Ss := .cons (.ite (.bool false (.cons (.not (.isi2 .tup .lst (.var 0))) (.cons (.cmp .NotEq (.isi .lst (.var 0)) (.isi .lst (.var 1))) .nil))) c_l_alike_8 .nil) c_l_alike_6
theorem st_l_alike_5 {Γ : Gam} {D : Dw} {σ : Sw} {M : Mh} : dSs Γ c_l_alike_5 D σ M = dSc Γ (.ite (.bool false (.cons (.not (.isi2 .tup .lst (.var 0))) (.cons (.cmp .NotEq (.isi .lst (.var 0)) (.isi .lst (.var 1))) .nil))) c_l_alike_8 .nil) { D with nx := dSs Γ c_l_alike_6 D } σ M := rfl
def c_l_alike_10 : Ss := .cons (.ret (.cmp .Is (.var 0) (.lit .non))) .nil
theorem st_l_alike_10 {Γ : Gam} {D : Dw} {σ : Sw} {M : Mh} : dSs Γ c_l_alike_10 D σ M = dSc Γ (.ret (.cmp .Is (.var 0) (.lit .non))) { D with nx := dSs Γ .nil D } σ M := rfl
def c_l_alike_11 : Ss := .cons (.ret (.bool true (.cons (.isi .str (.var 0)) (.cons (.cmp .Eq (.var 0) (.var 1)) .nil)))) .nil
theorem st_l_alike_11 {Γ : Gam} {D : Dw} {σ : Sw} {M : Mh} : dSs Γ c_l_alike_11 D σ M = dSc Γ (.ret (.bool true (.cons (.isi .str (.var 0)) (.cons (.cmp .Eq (.var 0) (.var 1)) .nil)))) { D with nx := dSs Γ .nil D } σ M := rfl
def c_l_alike_12 : Ss := .cons (.ret (.bool true (.cons (.isi .bl (.var 1)) (.cons (.isi .bl (.var 0)) (.cons (.cmp .Eq (.var 0) (.var 1)) .nil))))) .nil
theorem st_l_alike_12 {Γ : Gam} {D : Dw} {σ : Sw} {M : Mh} : dSs Γ c_l_alike_12 D σ M = dSc Γ (.ret (.bool true (.cons (.isi .bl (.var 1)) (.cons (.isi .bl (.var 0)) (.cons (.cmp .Eq (.var 0) (.var 1)) .nil))))) { D with nx := dSs Γ .nil D } σ M := rfl
def c_l_alike_4 : Ss := .cons (.ret (.bool true (.cons (.isi .int (.var 0)) (.cons (.cmp .Eq (.var 0) (.var 1)) .nil)))) .nil
theorem st_l_alike_4 {Γ : Gam} {D : Dw} {σ : Sw} {M : Mh} : dSs Γ c_l_alike_4 D σ M = dSc Γ (.ret (.bool true (.cons (.isi .int (.var 0)) (.cons (.cmp .Eq (.var 0) (.var 1)) .nil)))) { D with nx := dSs Γ .nil D } σ M := rfl
def c_l_alike_3 : Ss := .cons (.ite (.bool false (.cons (.isi .bl (.var 1)) (.cons (.isi .bl (.var 0)) .nil))) c_l_alike_12 .nil) c_l_alike_4
theorem st_l_alike_3 {Γ : Gam} {D : Dw} {σ : Sw} {M : Mh} : dSs Γ c_l_alike_3 D σ M = dSc Γ (.ite (.bool false (.cons (.isi .bl (.var 1)) (.cons (.isi .bl (.var 0)) .nil))) c_l_alike_12 .nil) { D with nx := dSs Γ c_l_alike_4 D } σ M := rfl
def c_l_alike_2 : Ss := .cons (.ite (.isi .str (.var 1)) c_l_alike_11 .nil) c_l_alike_3
theorem st_l_alike_2 {Γ : Gam} {D : Dw} {σ : Sw} {M : Mh} : dSs Γ c_l_alike_2 D σ M = dSc Γ (.ite (.isi .str (.var 1)) c_l_alike_11 .nil) { D with nx := dSs Γ c_l_alike_3 D } σ M := rfl
def c_l_alike_1 : Ss := .cons (.ite (.cmp .Is (.var 1) (.lit .non)) c_l_alike_10 .nil) c_l_alike_2
theorem st_l_alike_1 {Γ : Gam} {D : Dw} {σ : Sw} {M : Mh} : dSs Γ c_l_alike_1 D σ M = dSc Γ (.ite (.cmp .Is (.var 1) (.lit .non)) c_l_alike_10 .nil) { D with nx := dSs Γ c_l_alike_2 D } σ M := rfl
def c_l_alike : Ss := .cons (.ite (.isi2 .tup .lst (.var 1)) c_l_alike_5 .nil) c_l_alike_1
theorem st_l_alike {Γ : Gam} {D : Dw} {σ : Sw} {M : Mh} : dSs Γ c_l_alike D σ M = dSc Γ (.ite (.isi2 .tup .lst (.var 1)) c_l_alike_5 .nil) { D with nx := dSs Γ c_l_alike_1 D } σ M := rfl
def n_l_alike : List Str := ["_law_found", "_law_due", "_law_k"]
def c_law_v18_7 : Ss := .cons (.ret (.lit (.bl false))) .nil
theorem st_law_v18_7 {Γ : Gam} {D : Dw} {σ : Sw} {M : Mh} : dSs Γ c_law_v18_7 D σ M = dSc Γ (.ret (.lit (.bl false))) { D with nx := dSs Γ .nil D } σ M := rfl
def c_law_v18_8 : Ss := .cons (.ret (.lit (.bl false))) .nil
theorem st_law_v18_8 {Γ : Gam} {D : Dw} {σ : Sw} {M : Mh} : dSs Γ c_law_v18_8 D σ M = dSc Γ (.ret (.lit (.bl false))) { D with nx := dSs Γ .nil D } σ M := rfl
def c_law_v18_6 : Ss := .cons (.ite (.cmp .NotEq (.call 31 (.cons (.call 93 (.cons (.var 4) .nil)) .nil)) (.var 4)) c_law_v18_8 .nil) .nil
theorem st_law_v18_6 {Γ : Gam} {D : Dw} {σ : Sw} {M : Mh} : dSs Γ c_law_v18_6 D σ M = dSc Γ (.ite (.cmp .NotEq (.call 31 (.cons (.call 93 (.cons (.var 4) .nil)) .nil)) (.var 4)) c_law_v18_8 .nil) { D with nx := dSs Γ .nil D } σ M := rfl
def c_law_v18_5 : Ss := .cons (.ite (.bool false (.cons (.not (.call 46 (.cons (.call 31 (.cons (.var 3) .nil)) (.cons (.var 4) .nil)))) (.cons (.not (.call 46 (.cons (.call 93 (.cons (.var 4) .nil)) (.cons (.var 3) .nil)))) .nil))) c_law_v18_7 .nil) c_law_v18_6
theorem st_law_v18_5 {Γ : Gam} {D : Dw} {σ : Sw} {M : Mh} : dSs Γ c_law_v18_5 D σ M = dSc Γ (.ite (.bool false (.cons (.not (.call 46 (.cons (.call 31 (.cons (.var 3) .nil)) (.cons (.var 4) .nil)))) (.cons (.not (.call 46 (.cons (.call 93 (.cons (.var 4) .nil)) (.cons (.var 3) .nil)))) .nil))) c_law_v18_7 .nil) { D with nx := dSs Γ c_law_v18_6 D } σ M := rfl
def c_law_v18_4 : Ss := .cons (.asg (.name 4) (.bm false .join (.lit (.str "\n")) (.cons (.lc false (.bin .Add false (.bin .Add false (.blt false .str (.cons (.var 5) .nil)) (.lit (.str " "))) (.call 94 (.cons (.var 6) .nil))) (.tup [5, 6]) (.seq (.var 3)) .none [("_law_size", 5), ("_law_body_here", 6)]) .nil))) c_law_v18_5
theorem st_law_v18_4 {Γ : Gam} {D : Dw} {σ : Sw} {M : Mh} : dSs Γ c_law_v18_4 D σ M = dSc Γ (.asg (.name 4) (.bm false .join (.lit (.str "\n")) (.cons (.lc false (.bin .Add false (.bin .Add false (.blt false .str (.cons (.var 5) .nil)) (.lit (.str " "))) (.call 94 (.cons (.var 6) .nil))) (.tup [5, 6]) (.seq (.var 3)) .none [("_law_size", 5), ("_law_body_here", 6)]) .nil))) { D with nx := dSs Γ c_law_v18_5 D } σ M := rfl
def c_law_v18_3 : Ss := .cons (.asg (.name 3) (.call 52 (.cons (.var 1) (.cons (.lit (.int 8)) .nil)))) c_law_v18_4
theorem st_law_v18_3 {Γ : Gam} {D : Dw} {σ : Sw} {M : Mh} : dSs Γ c_law_v18_3 D σ M = dSc Γ (.asg (.name 3) (.call 52 (.cons (.var 1) (.cons (.lit (.int 8)) .nil)))) { D with nx := dSs Γ c_law_v18_4 D } σ M := rfl
def c_law_v18_2 : Ss := .cons (.ret (.lit (.bl true))) .nil
theorem st_law_v18_2 {Γ : Gam} {D : Dw} {σ : Sw} {M : Mh} : dSs Γ c_law_v18_2 D σ M = dSc Γ (.ret (.lit (.bl true))) { D with nx := dSs Γ .nil D } σ M := rfl
def c_law_v18_1 : Ss := .cons (.for_ (.name 2) (.rg1 (.lit (.int 6))) c_law_v18_3) c_law_v18_2
theorem st_law_v18_1 {Γ : Gam} {D : Dw} {σ : Sw} {M : Mh} : dSs Γ c_law_v18_1 D σ M = dSc Γ (.for_ (.name 2) (.rg1 (.lit (.int 6))) c_law_v18_3) { D with nx := dSs Γ c_law_v18_2 D } σ M := rfl
def c_law_v18 : Ss := .cons (.asg (.name 1) (.call 44 (.cons (.var 0) (.cons (.lit (.int 71)) .nil)))) c_law_v18_1
theorem st_law_v18 {Γ : Gam} {D : Dw} {σ : Sw} {M : Mh} : dSs Γ c_law_v18 D σ M = dSc Γ (.asg (.name 1) (.call 44 (.cons (.var 0) (.cons (.lit (.int 71)) .nil)))) { D with nx := dSs Γ c_law_v18_1 D } σ M := rfl
def n_law_v18 : List Str := ["_law_script", "_law_h", "_law_turn", "_law_program_here", "_law_text_here", "_law_size", "_law_body_here"]
def Alk : Nat → W → Prop
  | _, .non => True
  | _, .bl _ => True
  | _, .int _ => True
  | _, .str _ => True
  | n + 1, .tup ws => ws.length ≤ 1000000 ∧ ∀ w ∈ ws, Alk n w
  | n + 1, .lst ws => ws.length ≤ 1000000 ∧ ∀ w ∈ ws, Alk n w
  | _, _ => False
def sp_l_alike : Nat → Wp := fun k ws M Q _ => ∃ w, ws = [w, w] ∧ Alk k w ∧ Q (.bl true) M
theorem alike_seq {k : Nat} {ws : List W} {M : Mh} {D : Addr} {σ : Sw} : True := trivial
def idxPs (n : Nat) : List (W × Option W) := (List.range n).map fun i : Nat => (.int i, none)
theorem idxPs_fst {n : Nat} : rangeL 0 n = (idxPs n).map (·.1) := by
  unfold rangeL idxPs
  simp [Function.comp]
theorem idxPs_snd {n : Nat} : (idxPs n).filterMap (·.2) = [] := by
  unfold idxPs
  generalize List.range n = l
  induction l with
  | nil => rfl
  | cons i l ih => rw [List.map_cons, List.filterMap_cons]; exact ih
theorem keep_l_alike {Γ : Gam} {k : Nat} (f_l_alike : Γ.fn 46 = dn sp_l_alike k) : KeepC Γ n_l_alike 2 c_l_alike (sp_l_alike k) := by
  rintro ws M Q Ex ⟨w, rfl, hw, q⟩
  refine ⟨rfl, ?_⟩
  show dSs Γ _ _ [some w, some w, none] M
  cases w with
  | non => simp only [st_l_alike_8, st_l_alike_9, st_l_alike_7, st_l_alike_6, st_l_alike_5, st_l_alike_10, st_l_alike_11, st_l_alike_12, st_l_alike_4, st_l_alike_3, st_l_alike_2, st_l_alike_1, st_l_alike, dX, dXs, dXo, dXi, dSc, d2, d1, dN, dVar, dC, dTup, dLst, dTru, dB, dChain, dIte, dNotV, dNotT, dJoinV, dJoinT, dNil, dCons, dCall, dBM, dIsi, dIsi2, dAttr, dMeth, dNew, dDget, dDin, dDnew, dKidx, dKin, dKget, dDisp, dFrz, dSlice, dNoPart, dPart, dAsg, dExpr, dRet, dIf, dFld, dSet, dDput, dNever, dFor, dNext, binP, cmpP, iSeqD, iRg1, iRg2, iZip, iEnumD, Tg.asg, setAll, List.set, List.map_cons, List.map_nil, subW, modW, fdivW, powW, ltW, leW, gtW, geW, newL, finD, frzO, tupW, listW, oneW, twoW, BI.w, ints_eq, add_int, add_str, add_tup, add_lst, mul_int, mul_lst, idx_tup, idx_lst, idx_scr, idx_str, len_tup, len_lst, len_scr, len_str, sl_tup, sl_lst, neg_int, str_int, str_str, int_int, int_bl, is_non, is_int, is_str, is_tup, is_lst, is_bl, is_bb, eq_int, eq_str, eq_bl, ne_int, ne_str, ne_bl, eq_nilL, ty_non, ty_bl, ty_int, ty_str, ty_tup, ty_lst, ty_scr, ty_dk, Ty.sub, tr_bl, tr_non, tr_int, tr_str, sv_lst, sv_tup, sv_scr, lv_lst, at0, at1, at2, cut1, len0, ss_nil, for_nil, for_cons, pairs_cons, pairs_nil, pairs_nil', walk_lst, walk_scr, walk_tup, walk_str, walk_ref, List.getElem?_cons_zero, List.getElem?_cons_succ, List.length_cons, List.length_nil, List.append_nil, List.cons_append, List.nil_append, Option.some.injEq, W.int.injEq, W.str.injEq, W.bl.injEq, W.tup.injEq, W.lst.injEq, W.ref.injEq, List.cons.injEq, Option.map_some, exists_and_left, exists_and_right, exists_eq_left, exists_eq_left', exists_eq, exists_eq', exists_eq_right, exists_eq_right', and_true, true_and, and_assoc, reduceIte, reduceCtorEq, decide_true, decide_false, decide_eq_true_eq, decide_eq_false_iff_not, Bool.not_eq_true', Bool.not_eq_false', Bool.true_eq_false, Bool.false_eq_true, if_true, if_false, Bool.not_true, Bool.not_false, ite_true, ite_false, Int.cast_ofNat_Int, Int.reduceAdd, Int.reduceSub, Int.reduceEq, Int.reduceLT, Int.reduceLE, Int.natCast_add, Nat.reduceEqDiff, Nat.reduceAdd, Nat.add_zero, Nat.zero_add, Nat.succ_ne_zero, not_true_eq_false, not_false_eq_true, Option.getD_some, Option.getD_none, Bool.or_self]; exact q
  | bl b => simp only [st_l_alike_8, st_l_alike_9, st_l_alike_7, st_l_alike_6, st_l_alike_5, st_l_alike_10, st_l_alike_11, st_l_alike_12, st_l_alike_4, st_l_alike_3, st_l_alike_2, st_l_alike_1, st_l_alike, dX, dXs, dXo, dXi, dSc, d2, d1, dN, dVar, dC, dTup, dLst, dTru, dB, dChain, dIte, dNotV, dNotT, dJoinV, dJoinT, dNil, dCons, dCall, dBM, dIsi, dIsi2, dAttr, dMeth, dNew, dDget, dDin, dDnew, dKidx, dKin, dKget, dDisp, dFrz, dSlice, dNoPart, dPart, dAsg, dExpr, dRet, dIf, dFld, dSet, dDput, dNever, dFor, dNext, binP, cmpP, iSeqD, iRg1, iRg2, iZip, iEnumD, Tg.asg, setAll, List.set, List.map_cons, List.map_nil, subW, modW, fdivW, powW, ltW, leW, gtW, geW, newL, finD, frzO, tupW, listW, oneW, twoW, BI.w, ints_eq, add_int, add_str, add_tup, add_lst, mul_int, mul_lst, idx_tup, idx_lst, idx_scr, idx_str, len_tup, len_lst, len_scr, len_str, sl_tup, sl_lst, neg_int, str_int, str_str, int_int, int_bl, is_non, is_int, is_str, is_tup, is_lst, is_bl, is_bb, eq_int, eq_str, eq_bl, ne_int, ne_str, ne_bl, eq_nilL, ty_non, ty_bl, ty_int, ty_str, ty_tup, ty_lst, ty_scr, ty_dk, Ty.sub, tr_bl, tr_non, tr_int, tr_str, sv_lst, sv_tup, sv_scr, lv_lst, at0, at1, at2, cut1, len0, ss_nil, for_nil, for_cons, pairs_cons, pairs_nil, pairs_nil', walk_lst, walk_scr, walk_tup, walk_str, walk_ref, List.getElem?_cons_zero, List.getElem?_cons_succ, List.length_cons, List.length_nil, List.append_nil, List.cons_append, List.nil_append, Option.some.injEq, W.int.injEq, W.str.injEq, W.bl.injEq, W.tup.injEq, W.lst.injEq, W.ref.injEq, List.cons.injEq, Option.map_some, exists_and_left, exists_and_right, exists_eq_left, exists_eq_left', exists_eq, exists_eq', exists_eq_right, exists_eq_right', and_true, true_and, and_assoc, reduceIte, reduceCtorEq, decide_true, decide_false, decide_eq_true_eq, decide_eq_false_iff_not, Bool.not_eq_true', Bool.not_eq_false', Bool.true_eq_false, Bool.false_eq_true, if_true, if_false, Bool.not_true, Bool.not_false, ite_true, ite_false, Int.cast_ofNat_Int, Int.reduceAdd, Int.reduceSub, Int.reduceEq, Int.reduceLT, Int.reduceLE, Int.natCast_add, Nat.reduceEqDiff, Nat.reduceAdd, Nat.add_zero, Nat.zero_add, Nat.succ_ne_zero, not_true_eq_false, not_false_eq_true, Option.getD_some, Option.getD_none, Bool.or_self]; exact q
  | int i => simp only [st_l_alike_8, st_l_alike_9, st_l_alike_7, st_l_alike_6, st_l_alike_5, st_l_alike_10, st_l_alike_11, st_l_alike_12, st_l_alike_4, st_l_alike_3, st_l_alike_2, st_l_alike_1, st_l_alike, dX, dXs, dXo, dXi, dSc, d2, d1, dN, dVar, dC, dTup, dLst, dTru, dB, dChain, dIte, dNotV, dNotT, dJoinV, dJoinT, dNil, dCons, dCall, dBM, dIsi, dIsi2, dAttr, dMeth, dNew, dDget, dDin, dDnew, dKidx, dKin, dKget, dDisp, dFrz, dSlice, dNoPart, dPart, dAsg, dExpr, dRet, dIf, dFld, dSet, dDput, dNever, dFor, dNext, binP, cmpP, iSeqD, iRg1, iRg2, iZip, iEnumD, Tg.asg, setAll, List.set, List.map_cons, List.map_nil, subW, modW, fdivW, powW, ltW, leW, gtW, geW, newL, finD, frzO, tupW, listW, oneW, twoW, BI.w, ints_eq, add_int, add_str, add_tup, add_lst, mul_int, mul_lst, idx_tup, idx_lst, idx_scr, idx_str, len_tup, len_lst, len_scr, len_str, sl_tup, sl_lst, neg_int, str_int, str_str, int_int, int_bl, is_non, is_int, is_str, is_tup, is_lst, is_bl, is_bb, eq_int, eq_str, eq_bl, ne_int, ne_str, ne_bl, eq_nilL, ty_non, ty_bl, ty_int, ty_str, ty_tup, ty_lst, ty_scr, ty_dk, Ty.sub, tr_bl, tr_non, tr_int, tr_str, sv_lst, sv_tup, sv_scr, lv_lst, at0, at1, at2, cut1, len0, ss_nil, for_nil, for_cons, pairs_cons, pairs_nil, pairs_nil', walk_lst, walk_scr, walk_tup, walk_str, walk_ref, List.getElem?_cons_zero, List.getElem?_cons_succ, List.length_cons, List.length_nil, List.append_nil, List.cons_append, List.nil_append, Option.some.injEq, W.int.injEq, W.str.injEq, W.bl.injEq, W.tup.injEq, W.lst.injEq, W.ref.injEq, List.cons.injEq, Option.map_some, exists_and_left, exists_and_right, exists_eq_left, exists_eq_left', exists_eq, exists_eq', exists_eq_right, exists_eq_right', and_true, true_and, and_assoc, reduceIte, reduceCtorEq, decide_true, decide_false, decide_eq_true_eq, decide_eq_false_iff_not, Bool.not_eq_true', Bool.not_eq_false', Bool.true_eq_false, Bool.false_eq_true, if_true, if_false, Bool.not_true, Bool.not_false, ite_true, ite_false, Int.cast_ofNat_Int, Int.reduceAdd, Int.reduceSub, Int.reduceEq, Int.reduceLT, Int.reduceLE, Int.natCast_add, Nat.reduceEqDiff, Nat.reduceAdd, Nat.add_zero, Nat.zero_add, Nat.succ_ne_zero, not_true_eq_false, not_false_eq_true, Option.getD_some, Option.getD_none, Bool.or_self]; exact q
  | str s => simp only [st_l_alike_8, st_l_alike_9, st_l_alike_7, st_l_alike_6, st_l_alike_5, st_l_alike_10, st_l_alike_11, st_l_alike_12, st_l_alike_4, st_l_alike_3, st_l_alike_2, st_l_alike_1, st_l_alike, dX, dXs, dXo, dXi, dSc, d2, d1, dN, dVar, dC, dTup, dLst, dTru, dB, dChain, dIte, dNotV, dNotT, dJoinV, dJoinT, dNil, dCons, dCall, dBM, dIsi, dIsi2, dAttr, dMeth, dNew, dDget, dDin, dDnew, dKidx, dKin, dKget, dDisp, dFrz, dSlice, dNoPart, dPart, dAsg, dExpr, dRet, dIf, dFld, dSet, dDput, dNever, dFor, dNext, binP, cmpP, iSeqD, iRg1, iRg2, iZip, iEnumD, Tg.asg, setAll, List.set, List.map_cons, List.map_nil, subW, modW, fdivW, powW, ltW, leW, gtW, geW, newL, finD, frzO, tupW, listW, oneW, twoW, BI.w, ints_eq, add_int, add_str, add_tup, add_lst, mul_int, mul_lst, idx_tup, idx_lst, idx_scr, idx_str, len_tup, len_lst, len_scr, len_str, sl_tup, sl_lst, neg_int, str_int, str_str, int_int, int_bl, is_non, is_int, is_str, is_tup, is_lst, is_bl, is_bb, eq_int, eq_str, eq_bl, ne_int, ne_str, ne_bl, eq_nilL, ty_non, ty_bl, ty_int, ty_str, ty_tup, ty_lst, ty_scr, ty_dk, Ty.sub, tr_bl, tr_non, tr_int, tr_str, sv_lst, sv_tup, sv_scr, lv_lst, at0, at1, at2, cut1, len0, ss_nil, for_nil, for_cons, pairs_cons, pairs_nil, pairs_nil', walk_lst, walk_scr, walk_tup, walk_str, walk_ref, List.getElem?_cons_zero, List.getElem?_cons_succ, List.length_cons, List.length_nil, List.append_nil, List.cons_append, List.nil_append, Option.some.injEq, W.int.injEq, W.str.injEq, W.bl.injEq, W.tup.injEq, W.lst.injEq, W.ref.injEq, List.cons.injEq, Option.map_some, exists_and_left, exists_and_right, exists_eq_left, exists_eq_left', exists_eq, exists_eq', exists_eq_right, exists_eq_right', and_true, true_and, and_assoc, reduceIte, reduceCtorEq, decide_true, decide_false, decide_eq_true_eq, decide_eq_false_iff_not, Bool.not_eq_true', Bool.not_eq_false', Bool.true_eq_false, Bool.false_eq_true, if_true, if_false, Bool.not_true, Bool.not_false, ite_true, ite_false, Int.cast_ofNat_Int, Int.reduceAdd, Int.reduceSub, Int.reduceEq, Int.reduceLT, Int.reduceLE, Int.natCast_add, Nat.reduceEqDiff, Nat.reduceAdd, Nat.add_zero, Nat.zero_add, Nat.succ_ne_zero, not_true_eq_false, not_false_eq_true, Option.getD_some, Option.getD_none, Bool.or_self]; exact q
  | tup ws =>
    cases k with
    | zero => exact hw.elim
    | succ k =>
    obtain ⟨hl, hw⟩ : ws.length ≤ 1000000 ∧ ∀ w ∈ ws, Alk k w := hw
    simp only [st_l_alike_8, st_l_alike_9, st_l_alike_7, st_l_alike_6, st_l_alike_5, st_l_alike_10, st_l_alike_11, st_l_alike_12, st_l_alike_4, st_l_alike_3, st_l_alike_2, st_l_alike_1, st_l_alike, dLc, wipeW, dX, dXs, dXo, dXi, dSc, d2, d1, dN, dVar, dC, dTup, dLst, dTru, dB, dChain, dIte, dNotV, dNotT, dJoinV, dJoinT, dNil, dCons, dCall, dBM, dIsi, dIsi2, dAttr, dMeth, dNew, dDget, dDin, dDnew, dKidx, dKin, dKget, dDisp, dFrz, dSlice, dNoPart, dPart, dAsg, dExpr, dRet, dIf, dFld, dSet, dDput, dNever, dFor, dNext, binP, cmpP, iSeqD, iRg1, iRg2, iZip, iEnumD, Tg.asg, setAll, List.set, List.map_cons, List.map_nil, subW, modW, fdivW, powW, ltW, leW, gtW, geW, newL, finD, frzO, tupW, listW, oneW, twoW, BI.w, ints_eq, add_int, add_str, add_tup, add_lst, mul_int, mul_lst, idx_tup, idx_lst, idx_scr, idx_str, len_tup, len_lst, len_scr, len_str, sl_tup, sl_lst, neg_int, str_int, str_str, int_int, int_bl, is_non, is_int, is_str, is_tup, is_lst, is_bl, is_bb, eq_int, eq_str, eq_bl, ne_int, ne_str, ne_bl, eq_nilL, ty_non, ty_bl, ty_int, ty_str, ty_tup, ty_lst, ty_scr, ty_dk, Ty.sub, tr_bl, tr_non, tr_int, tr_str, sv_lst, sv_tup, sv_scr, lv_lst, at0, at1, at2, cut1, len0, ss_nil, for_nil, for_cons, pairs_cons, pairs_nil, pairs_nil', walk_lst, walk_scr, walk_tup, walk_str, walk_ref, List.getElem?_cons_zero, List.getElem?_cons_succ, List.length_cons, List.length_nil, List.append_nil, List.cons_append, List.nil_append, Option.some.injEq, W.int.injEq, W.str.injEq, W.bl.injEq, W.tup.injEq, W.lst.injEq, W.ref.injEq, List.cons.injEq, Option.map_some, exists_and_left, exists_and_right, exists_eq_left, exists_eq_left', exists_eq, exists_eq', exists_eq_right, exists_eq_right', and_true, true_and, and_assoc, reduceIte, reduceCtorEq, decide_true, decide_false, decide_eq_true_eq, decide_eq_false_iff_not, Bool.not_eq_true', Bool.not_eq_false', Bool.true_eq_false, Bool.false_eq_true, if_true, if_false, Bool.not_true, Bool.not_false, ite_true, ite_false, Int.cast_ofNat_Int, Int.reduceAdd, Int.reduceSub, Int.reduceEq, Int.reduceLT, Int.reduceLE, Int.natCast_add, Nat.reduceEqDiff, Nat.reduceAdd, Nat.add_zero, Nat.zero_add, Nat.succ_ne_zero, not_true_eq_false, not_false_eq_true, Option.getD_some, Option.getD_none, f_l_alike, dn, Bool.or_false, Bool.or_true, Bool.true_or, Bool.false_or]
    refine ⟨by omega, by omega, by rw [rangeL_len]; exact szl hl, lc_of (idxPs ws.length) idxPs_fst (fun _ _ _ => trivial) (fun D hD p hp us => ?_) (by rw [idxPs_snd, eq_nilL]; exact q)⟩
    obtain ⟨i, hi, rfl⟩ := List.mem_map.mp hp
    have hi := List.mem_range.mp hi
    refine ⟨_, rfl, fun R h => ?_, fun y hy => nomatch hy⟩
    simp only [dX, dXs, dXo, dXi, dSc, d2, d1, dN, dVar, dC, dTup, dLst, dTru, dB, dChain, dIte, dNotV, dNotT, dJoinV, dJoinT, dNil, dCons, dCall, dBM, dIsi, dIsi2, dAttr, dMeth, dNew, dDget, dDin, dDnew, dKidx, dKin, dKget, dDisp, dFrz, dSlice, dNoPart, dPart, dAsg, dExpr, dRet, dIf, dFld, dSet, dDput, dNever, dFor, dNext, binP, cmpP, iSeqD, iRg1, iRg2, iZip, iEnumD, Tg.asg, setAll, List.set, List.map_cons, List.map_nil, subW, modW, fdivW, powW, ltW, leW, gtW, geW, newL, finD, frzO, tupW, listW, oneW, twoW, BI.w, ints_eq, add_int, add_str, add_tup, add_lst, mul_int, mul_lst, idx_tup, idx_lst, idx_scr, idx_str, len_tup, len_lst, len_scr, len_str, sl_tup, sl_lst, neg_int, str_int, str_str, int_int, int_bl, is_non, is_int, is_str, is_tup, is_lst, is_bl, is_bb, eq_int, eq_str, eq_bl, ne_int, ne_str, ne_bl, eq_nilL, ty_non, ty_bl, ty_int, ty_str, ty_tup, ty_lst, ty_scr, ty_dk, Ty.sub, tr_bl, tr_non, tr_int, tr_str, sv_lst, sv_tup, sv_scr, lv_lst, at0, at1, at2, cut1, len0, ss_nil, for_nil, for_cons, pairs_cons, pairs_nil, pairs_nil', walk_lst, walk_scr, walk_tup, walk_str, walk_ref, List.getElem?_cons_zero, List.getElem?_cons_succ, List.length_cons, List.length_nil, List.append_nil, List.cons_append, List.nil_append, Option.some.injEq, W.int.injEq, W.str.injEq, W.bl.injEq, W.tup.injEq, W.lst.injEq, W.ref.injEq, List.cons.injEq, Option.map_some, exists_and_left, exists_and_right, exists_eq_left, exists_eq_left', exists_eq, exists_eq', exists_eq_right, exists_eq_right', and_true, true_and, and_assoc, reduceIte, reduceCtorEq, decide_true, decide_false, decide_eq_true_eq, decide_eq_false_iff_not, Bool.not_eq_true', Bool.not_eq_false', Bool.true_eq_false, Bool.false_eq_true, if_true, if_false, Bool.not_true, Bool.not_false, ite_true, ite_false, Int.cast_ofNat_Int, Int.reduceAdd, Int.reduceSub, Int.reduceEq, Int.reduceLT, Int.reduceLE, Int.natCast_add, Nat.reduceEqDiff, Nat.reduceAdd, Nat.add_zero, Nat.zero_add, Nat.succ_ne_zero, not_true_eq_false, not_false_eq_true, Option.getD_some, Option.getD_none, pick hi]
    refine ⟨ws[i], rfl, hw _ (List.getElem_mem hi), ?_⟩
    simp only [dX, dXs, dXo, dXi, dSc, d2, d1, dN, dVar, dC, dTup, dLst, dTru, dB, dChain, dIte, dNotV, dNotT, dJoinV, dJoinT, dNil, dCons, dCall, dBM, dIsi, dIsi2, dAttr, dMeth, dNew, dDget, dDin, dDnew, dKidx, dKin, dKget, dDisp, dFrz, dSlice, dNoPart, dPart, dAsg, dExpr, dRet, dIf, dFld, dSet, dDput, dNever, dFor, dNext, binP, cmpP, iSeqD, iRg1, iRg2, iZip, iEnumD, Tg.asg, setAll, List.set, List.map_cons, List.map_nil, subW, modW, fdivW, powW, ltW, leW, gtW, geW, newL, finD, frzO, tupW, listW, oneW, twoW, BI.w, ints_eq, add_int, add_str, add_tup, add_lst, mul_int, mul_lst, idx_tup, idx_lst, idx_scr, idx_str, len_tup, len_lst, len_scr, len_str, sl_tup, sl_lst, neg_int, str_int, str_str, int_int, int_bl, is_non, is_int, is_str, is_tup, is_lst, is_bl, is_bb, eq_int, eq_str, eq_bl, ne_int, ne_str, ne_bl, eq_nilL, ty_non, ty_bl, ty_int, ty_str, ty_tup, ty_lst, ty_scr, ty_dk, Ty.sub, tr_bl, tr_non, tr_int, tr_str, sv_lst, sv_tup, sv_scr, lv_lst, at0, at1, at2, cut1, len0, ss_nil, for_nil, for_cons, pairs_cons, pairs_nil, pairs_nil', walk_lst, walk_scr, walk_tup, walk_str, walk_ref, List.getElem?_cons_zero, List.getElem?_cons_succ, List.length_cons, List.length_nil, List.append_nil, List.cons_append, List.nil_append, Option.some.injEq, W.int.injEq, W.str.injEq, W.bl.injEq, W.tup.injEq, W.lst.injEq, W.ref.injEq, List.cons.injEq, Option.map_some, exists_and_left, exists_and_right, exists_eq_left, exists_eq_left', exists_eq, exists_eq', exists_eq_right, exists_eq_right', and_true, true_and, and_assoc, reduceIte, reduceCtorEq, decide_true, decide_false, decide_eq_true_eq, decide_eq_false_iff_not, Bool.not_eq_true', Bool.not_eq_false', Bool.true_eq_false, Bool.false_eq_true, if_true, if_false, Bool.not_true, Bool.not_false, ite_true, ite_false, Int.cast_ofNat_Int, Int.reduceAdd, Int.reduceSub, Int.reduceEq, Int.reduceLT, Int.reduceLE, Int.natCast_add, Nat.reduceEqDiff, Nat.reduceAdd, Nat.add_zero, Nat.zero_add, Nat.succ_ne_zero, not_true_eq_false, not_false_eq_true, Option.getD_some, Option.getD_none]
    exact h
  | lst ws =>
    cases k with
    | zero => exact hw.elim
    | succ k =>
    obtain ⟨hl, hw⟩ : ws.length ≤ 1000000 ∧ ∀ w ∈ ws, Alk k w := hw
    simp only [st_l_alike_8, st_l_alike_9, st_l_alike_7, st_l_alike_6, st_l_alike_5, st_l_alike_10, st_l_alike_11, st_l_alike_12, st_l_alike_4, st_l_alike_3, st_l_alike_2, st_l_alike_1, st_l_alike, dLc, wipeW, dX, dXs, dXo, dXi, dSc, d2, d1, dN, dVar, dC, dTup, dLst, dTru, dB, dChain, dIte, dNotV, dNotT, dJoinV, dJoinT, dNil, dCons, dCall, dBM, dIsi, dIsi2, dAttr, dMeth, dNew, dDget, dDin, dDnew, dKidx, dKin, dKget, dDisp, dFrz, dSlice, dNoPart, dPart, dAsg, dExpr, dRet, dIf, dFld, dSet, dDput, dNever, dFor, dNext, binP, cmpP, iSeqD, iRg1, iRg2, iZip, iEnumD, Tg.asg, setAll, List.set, List.map_cons, List.map_nil, subW, modW, fdivW, powW, ltW, leW, gtW, geW, newL, finD, frzO, tupW, listW, oneW, twoW, BI.w, ints_eq, add_int, add_str, add_tup, add_lst, mul_int, mul_lst, idx_tup, idx_lst, idx_scr, idx_str, len_tup, len_lst, len_scr, len_str, sl_tup, sl_lst, neg_int, str_int, str_str, int_int, int_bl, is_non, is_int, is_str, is_tup, is_lst, is_bl, is_bb, eq_int, eq_str, eq_bl, ne_int, ne_str, ne_bl, eq_nilL, ty_non, ty_bl, ty_int, ty_str, ty_tup, ty_lst, ty_scr, ty_dk, Ty.sub, tr_bl, tr_non, tr_int, tr_str, sv_lst, sv_tup, sv_scr, lv_lst, at0, at1, at2, cut1, len0, ss_nil, for_nil, for_cons, pairs_cons, pairs_nil, pairs_nil', walk_lst, walk_scr, walk_tup, walk_str, walk_ref, List.getElem?_cons_zero, List.getElem?_cons_succ, List.length_cons, List.length_nil, List.append_nil, List.cons_append, List.nil_append, Option.some.injEq, W.int.injEq, W.str.injEq, W.bl.injEq, W.tup.injEq, W.lst.injEq, W.ref.injEq, List.cons.injEq, Option.map_some, exists_and_left, exists_and_right, exists_eq_left, exists_eq_left', exists_eq, exists_eq', exists_eq_right, exists_eq_right', and_true, true_and, and_assoc, reduceIte, reduceCtorEq, decide_true, decide_false, decide_eq_true_eq, decide_eq_false_iff_not, Bool.not_eq_true', Bool.not_eq_false', Bool.true_eq_false, Bool.false_eq_true, if_true, if_false, Bool.not_true, Bool.not_false, ite_true, ite_false, Int.cast_ofNat_Int, Int.reduceAdd, Int.reduceSub, Int.reduceEq, Int.reduceLT, Int.reduceLE, Int.natCast_add, Nat.reduceEqDiff, Nat.reduceAdd, Nat.add_zero, Nat.zero_add, Nat.succ_ne_zero, not_true_eq_false, not_false_eq_true, Option.getD_some, Option.getD_none, f_l_alike, dn, Bool.or_false, Bool.or_true, Bool.true_or, Bool.false_or]
    refine ⟨by omega, by omega, by rw [rangeL_len]; exact szl hl, lc_of (idxPs ws.length) idxPs_fst (fun _ _ _ => trivial) (fun D hD p hp us => ?_) (by rw [idxPs_snd, eq_nilL]; exact q)⟩
    obtain ⟨i, hi, rfl⟩ := List.mem_map.mp hp
    have hi := List.mem_range.mp hi
    refine ⟨_, rfl, fun R h => ?_, fun y hy => nomatch hy⟩
    simp only [dX, dXs, dXo, dXi, dSc, d2, d1, dN, dVar, dC, dTup, dLst, dTru, dB, dChain, dIte, dNotV, dNotT, dJoinV, dJoinT, dNil, dCons, dCall, dBM, dIsi, dIsi2, dAttr, dMeth, dNew, dDget, dDin, dDnew, dKidx, dKin, dKget, dDisp, dFrz, dSlice, dNoPart, dPart, dAsg, dExpr, dRet, dIf, dFld, dSet, dDput, dNever, dFor, dNext, binP, cmpP, iSeqD, iRg1, iRg2, iZip, iEnumD, Tg.asg, setAll, List.set, List.map_cons, List.map_nil, subW, modW, fdivW, powW, ltW, leW, gtW, geW, newL, finD, frzO, tupW, listW, oneW, twoW, BI.w, ints_eq, add_int, add_str, add_tup, add_lst, mul_int, mul_lst, idx_tup, idx_lst, idx_scr, idx_str, len_tup, len_lst, len_scr, len_str, sl_tup, sl_lst, neg_int, str_int, str_str, int_int, int_bl, is_non, is_int, is_str, is_tup, is_lst, is_bl, is_bb, eq_int, eq_str, eq_bl, ne_int, ne_str, ne_bl, eq_nilL, ty_non, ty_bl, ty_int, ty_str, ty_tup, ty_lst, ty_scr, ty_dk, Ty.sub, tr_bl, tr_non, tr_int, tr_str, sv_lst, sv_tup, sv_scr, lv_lst, at0, at1, at2, cut1, len0, ss_nil, for_nil, for_cons, pairs_cons, pairs_nil, pairs_nil', walk_lst, walk_scr, walk_tup, walk_str, walk_ref, List.getElem?_cons_zero, List.getElem?_cons_succ, List.length_cons, List.length_nil, List.append_nil, List.cons_append, List.nil_append, Option.some.injEq, W.int.injEq, W.str.injEq, W.bl.injEq, W.tup.injEq, W.lst.injEq, W.ref.injEq, List.cons.injEq, Option.map_some, exists_and_left, exists_and_right, exists_eq_left, exists_eq_left', exists_eq, exists_eq', exists_eq_right, exists_eq_right', and_true, true_and, and_assoc, reduceIte, reduceCtorEq, decide_true, decide_false, decide_eq_true_eq, decide_eq_false_iff_not, Bool.not_eq_true', Bool.not_eq_false', Bool.true_eq_false, Bool.false_eq_true, if_true, if_false, Bool.not_true, Bool.not_false, ite_true, ite_false, Int.cast_ofNat_Int, Int.reduceAdd, Int.reduceSub, Int.reduceEq, Int.reduceLT, Int.reduceLE, Int.natCast_add, Nat.reduceEqDiff, Nat.reduceAdd, Nat.add_zero, Nat.zero_add, Nat.succ_ne_zero, not_true_eq_false, not_false_eq_true, Option.getD_some, Option.getD_none, pick hi]
    refine ⟨ws[i], rfl, hw _ (List.getElem_mem hi), ?_⟩
    simp only [dX, dXs, dXo, dXi, dSc, d2, d1, dN, dVar, dC, dTup, dLst, dTru, dB, dChain, dIte, dNotV, dNotT, dJoinV, dJoinT, dNil, dCons, dCall, dBM, dIsi, dIsi2, dAttr, dMeth, dNew, dDget, dDin, dDnew, dKidx, dKin, dKget, dDisp, dFrz, dSlice, dNoPart, dPart, dAsg, dExpr, dRet, dIf, dFld, dSet, dDput, dNever, dFor, dNext, binP, cmpP, iSeqD, iRg1, iRg2, iZip, iEnumD, Tg.asg, setAll, List.set, List.map_cons, List.map_nil, subW, modW, fdivW, powW, ltW, leW, gtW, geW, newL, finD, frzO, tupW, listW, oneW, twoW, BI.w, ints_eq, add_int, add_str, add_tup, add_lst, mul_int, mul_lst, idx_tup, idx_lst, idx_scr, idx_str, len_tup, len_lst, len_scr, len_str, sl_tup, sl_lst, neg_int, str_int, str_str, int_int, int_bl, is_non, is_int, is_str, is_tup, is_lst, is_bl, is_bb, eq_int, eq_str, eq_bl, ne_int, ne_str, ne_bl, eq_nilL, ty_non, ty_bl, ty_int, ty_str, ty_tup, ty_lst, ty_scr, ty_dk, Ty.sub, tr_bl, tr_non, tr_int, tr_str, sv_lst, sv_tup, sv_scr, lv_lst, at0, at1, at2, cut1, len0, ss_nil, for_nil, for_cons, pairs_cons, pairs_nil, pairs_nil', walk_lst, walk_scr, walk_tup, walk_str, walk_ref, List.getElem?_cons_zero, List.getElem?_cons_succ, List.length_cons, List.length_nil, List.append_nil, List.cons_append, List.nil_append, Option.some.injEq, W.int.injEq, W.str.injEq, W.bl.injEq, W.tup.injEq, W.lst.injEq, W.ref.injEq, List.cons.injEq, Option.map_some, exists_and_left, exists_and_right, exists_eq_left, exists_eq_left', exists_eq, exists_eq', exists_eq_right, exists_eq_right', and_true, true_and, and_assoc, reduceIte, reduceCtorEq, decide_true, decide_false, decide_eq_true_eq, decide_eq_false_iff_not, Bool.not_eq_true', Bool.not_eq_false', Bool.true_eq_false, Bool.false_eq_true, if_true, if_false, Bool.not_true, Bool.not_false, ite_true, ite_false, Int.cast_ofNat_Int, Int.reduceAdd, Int.reduceSub, Int.reduceEq, Int.reduceLT, Int.reduceLE, Int.natCast_add, Nat.reduceEqDiff, Nat.reduceAdd, Nat.add_zero, Nat.zero_add, Nat.succ_ne_zero, not_true_eq_false, not_false_eq_true, Option.getD_some, Option.getD_none]
    exact h
  | _ => cases k <;> exact hw.elim
theorem Alk.mono : ∀ {n m : Nat} {w : W}, Alk n w → n ≤ m → Alk m w
  | n, m, .non, _, _ => by cases m <;> trivial
  | n, m, .bl _, _, _ => by cases m <;> trivial
  | n, m, .int _, _, _ => by cases m <;> trivial
  | n, m, .str _, _, _ => by cases m <;> trivial
  | n + 1, m + 1, .tup ws, h, l => ⟨h.1, fun w hw => Alk.mono (h.2 w hw) (by omega)⟩
  | n + 1, m + 1, .lst ws, h, l => ⟨h.1, fun w hw => Alk.mono (h.2 w hw) (by omega)⟩
  | n + 1, 0, _, _, l => by omega
  | 0, m, .tup ws, h, _ => h.elim
  | 0, m, .lst ws, h, _ => h.elim
  | 0, m, .ref _, h, _ => h.elim
  | 0, m, .scr _, h, _ => h.elim
  | 0, m, .dk _ _, h, _ => h.elim
  | 0, m, .dt _ _, h, _ => h.elim
  | 0, m, .obj _ _ _, h, _ => h.elim
  | n + 1, m + 1, .ref _, h, _ => h.elim
  | n + 1, m + 1, .scr _, h, _ => h.elim
  | n + 1, m + 1, .dk _ _, h, _ => h.elim
  | n + 1, m + 1, .dt _ _, h, _ => h.elim
  | n + 1, m + 1, .obj _ _ _, h, _ => h.elim
theorem Bd.alk (b : Bd) : Alk (b.ht + 1) b.enc := by
  have leaf : ∀ (n : Nat) (s : Str) , Alk n (.str s) := fun n s => by cases n <;> trivial
  have leafI : ∀ (n : Nat) (i : Int) , Alk n (.int i) := fun n i => by cases n <;> trivial
  induction b with
  | num n => exact ⟨by simp, by simp [leaf, leafI]⟩
  | arg => exact ⟨by simp, by simp [leaf, leafI]⟩
  | way f => exact ⟨by simp, by simp [leaf, leafI]⟩
  | plus a b ha hb => exact ⟨by simp, by simp only [List.mem_cons, List.not_mem_nil, or_false, forall_eq_or_imp, forall_eq]; exact ⟨leaf _ _, ha.mono (by simp only [Bd.ht]; omega), hb.mono (by simp only [Bd.ht]; omega)⟩⟩
  | less a b ha hb => exact ⟨by simp, by simp only [List.mem_cons, List.not_mem_nil, or_false, forall_eq_or_imp, forall_eq]; exact ⟨leaf _ _, ha.mono (by simp only [Bd.ht]; omega), hb.mono (by simp only [Bd.ht]; omega)⟩⟩
  | times a b ha hb => exact ⟨by simp, by simp only [List.mem_cons, List.not_mem_nil, or_false, forall_eq_or_imp, forall_eq]; exact ⟨leaf _ _, ha.mono (by simp only [Bd.ht]; omega), hb.mono (by simp only [Bd.ht]; omega)⟩⟩
  | iff a b c ha hb hc => exact ⟨by simp, by simp only [List.mem_cons, List.not_mem_nil, or_false, forall_eq_or_imp, forall_eq]; exact ⟨leaf _ _, ha.mono (by simp only [Bd.ht]; omega), hb.mono (by simp only [Bd.ht]; omega), hc.mono (by simp only [Bd.ht]; omega)⟩⟩
  | thn a b ha hb => exact ⟨by simp, by simp only [List.mem_cons, List.not_mem_nil, or_false, forall_eq_or_imp, forall_eq]; exact ⟨leaf _ _, ha.mono (by simp only [Bd.ht]; omega), hb.mono (by simp only [Bd.ht]; omega)⟩⟩
  | say a ha => exact ⟨by simp, by simp only [List.mem_cons, List.not_mem_nil, or_false, forall_eq_or_imp, forall_eq]; exact ⟨leaf _ _, ha.mono (by simp only [Bd.ht]; omega)⟩⟩
  | call f a ha => exact ⟨by simp, by simp only [List.mem_cons, List.not_mem_nil, or_false, forall_eq_or_imp, forall_eq]; exact ⟨leaf _ _, leafI _ _, ha.mono (by simp only [Bd.ht]; omega)⟩⟩
  | thr a b ha hb => exact ⟨by simp, by simp only [List.mem_cons, List.not_mem_nil, or_false, forall_eq_or_imp, forall_eq]; exact ⟨leaf _ _, ha.mono (by simp only [Bd.ht]; omega), hb.mono (by simp only [Bd.ht]; omega)⟩⟩
theorem prog_alk {p : List (Nat × Bd)} (ok : PrOk p) : Alk 9 (encP p) := by
  have h8 := ok.l8
  refine ⟨by rw [List.length_map]; omega, fun w hw => ?_⟩
  obtain ⟨f, hf, rfl⟩ := List.mem_map.mp hw
  have := (ok.ok f hf).ht
  refine ⟨by simp, ?_⟩
  simp only [List.mem_cons, List.not_mem_nil, or_false, forall_eq_or_imp, forall_eq]
  exact ⟨trivial, f.2.alk.mono (by omega)⟩
def sp_law_v18 : Nat → Wp := fun k ws M Q _ => ∃ ns : List Int, ws = [.scr (ns.map W.int)] ∧ 20 ≤ k ∧ ∀ M', Q (.bl true) M'
theorem Fr0.hs {a s : Addr} {M M' : Mh} (h : Fr0 M M') (hs : Hs a s M) : Hs a s M' := by
  obtain ⟨⟨x, t, cells, h1, h2, h3⟩, ne⟩ := hs
  exact ⟨⟨x, t, cells, h a _ h1, h s _ h2, h3⟩, ne⟩
theorem keep_law_v18 {Γ : Gam} {k : Nat} (f_l_mix : Γ.fn 44 = dn sp_l_mix k) (f_l_program : Γ.fn 52 = dn sp_l_program k) (f_written : Γ.fn 31 = dn sp_written k) (f_l_alike : Γ.fn 46 = dn sp_l_alike k) (f_read : Γ.fn 93 = dn sp_read k) (f_l_text : Γ.fn 94 = dn sp_l_text k) : KeepC Γ n_law_v18 1 c_law_v18 (sp_law_v18 k) := by
  rintro ws M Q Ex ⟨ns, rfl, hk, q⟩
  refine ⟨rfl, ?_⟩
  show dSs Γ _ _ [some (.scr (ns.map W.int)), none, none, none, none, none, none] M
  cases k with
  | zero => omega
  | succ k =>
  simp only [st_law_v18, f_l_mix, f_l_program, f_written, f_l_alike, f_read, f_l_text, dn, dX, dXs, dXo, dXi, dSc, d2, d1, dN, dVar, dC, dTup, dLst, dTru, dB, dChain, dIte, dNotV, dNotT, dJoinV, dJoinT, dNil, dCons, dCall, dBM, dIsi, dIsi2, dAttr, dMeth, dNew, dDget, dDin, dDnew, dKidx, dKin, dKget, dDisp, dFrz, dSlice, dNoPart, dPart, dAsg, dExpr, dRet, dIf, dFld, dSet, dDput, dNever, dFor, dNext, binP, cmpP, iSeqD, iRg1, iRg2, iZip, iEnumD, Tg.asg, setAll, List.set, List.map_cons, List.map_nil, subW, modW, fdivW, powW, ltW, leW, gtW, geW, newL, finD, frzO, tupW, listW, oneW, twoW, BI.w, ints_eq, add_int, add_str, add_tup, add_lst, mul_int, mul_lst, idx_tup, idx_lst, idx_scr, idx_str, len_tup, len_lst, len_scr, len_str, sl_tup, sl_lst, neg_int, str_int, str_str, int_int, int_bl, is_non, is_int, is_str, is_tup, is_lst, is_bl, is_bb, eq_int, eq_str, eq_bl, ne_int, ne_str, ne_bl, eq_nilL, ty_non, ty_bl, ty_int, ty_str, ty_tup, ty_lst, ty_scr, ty_dk, Ty.sub, tr_bl, tr_non, tr_int, tr_str, sv_lst, sv_tup, sv_scr, lv_lst, at0, at1, at2, cut1, len0, ss_nil, for_nil, for_cons, pairs_cons, pairs_nil, pairs_nil', walk_lst, walk_scr, walk_tup, walk_str, walk_ref, List.getElem?_cons_zero, List.getElem?_cons_succ, List.length_cons, List.length_nil, List.append_nil, List.cons_append, List.nil_append, Option.some.injEq, W.int.injEq, W.str.injEq, W.bl.injEq, W.tup.injEq, W.lst.injEq, W.ref.injEq, List.cons.injEq, Option.map_some, exists_and_left, exists_and_right, exists_eq_left, exists_eq_left', exists_eq, exists_eq', exists_eq_right, exists_eq_right', and_true, true_and, and_assoc, reduceIte, reduceCtorEq, decide_true, decide_false, decide_eq_true_eq, decide_eq_false_iff_not, Bool.not_eq_true', Bool.not_eq_false', Bool.true_eq_false, Bool.false_eq_true, if_true, if_false, Bool.not_true, Bool.not_false, ite_true, ite_false, Int.cast_ofNat_Int, Int.reduceAdd, Int.reduceSub, Int.reduceEq, Int.reduceLT, Int.reduceLE, Int.natCast_add, Nat.reduceEqDiff, Nat.reduceAdd, Nat.add_zero, Nat.zero_add, Nat.succ_ne_zero, not_true_eq_false, not_false_eq_true, Option.getD_some, Option.getD_none]
  refine ⟨ns, 71, rfl, by decide, fun a s M1 ha hs0 hs1 fr1 => ?_⟩
  simp only [st_law_v18_1, dX, dXs, dXo, dXi, dSc, d2, d1, dN, dVar, dC, dTup, dLst, dTru, dB, dChain, dIte, dNotV, dNotT, dJoinV, dJoinT, dNil, dCons, dCall, dBM, dIsi, dIsi2, dAttr, dMeth, dNew, dDget, dDin, dDnew, dKidx, dKin, dKget, dDisp, dFrz, dSlice, dNoPart, dPart, dAsg, dExpr, dRet, dIf, dFld, dSet, dDput, dNever, dFor, dNext, binP, cmpP, iSeqD, iRg1, iRg2, iZip, iEnumD, Tg.asg, setAll, List.set, List.map_cons, List.map_nil, subW, modW, fdivW, powW, ltW, leW, gtW, geW, newL, finD, frzO, tupW, listW, oneW, twoW, BI.w, ints_eq, add_int, add_str, add_tup, add_lst, mul_int, mul_lst, idx_tup, idx_lst, idx_scr, idx_str, len_tup, len_lst, len_scr, len_str, sl_tup, sl_lst, neg_int, str_int, str_str, int_int, int_bl, is_non, is_int, is_str, is_tup, is_lst, is_bl, is_bb, eq_int, eq_str, eq_bl, ne_int, ne_str, ne_bl, eq_nilL, ty_non, ty_bl, ty_int, ty_str, ty_tup, ty_lst, ty_scr, ty_dk, Ty.sub, tr_bl, tr_non, tr_int, tr_str, sv_lst, sv_tup, sv_scr, lv_lst, at0, at1, at2, cut1, len0, ss_nil, for_nil, for_cons, pairs_cons, pairs_nil, pairs_nil', walk_lst, walk_scr, walk_tup, walk_str, walk_ref, List.getElem?_cons_zero, List.getElem?_cons_succ, List.length_cons, List.length_nil, List.append_nil, List.cons_append, List.nil_append, Option.some.injEq, W.int.injEq, W.str.injEq, W.bl.injEq, W.tup.injEq, W.lst.injEq, W.ref.injEq, List.cons.injEq, Option.map_some, exists_and_left, exists_and_right, exists_eq_left, exists_eq_left', exists_eq, exists_eq', exists_eq_right, exists_eq_right', and_true, true_and, and_assoc, reduceIte, reduceCtorEq, decide_true, decide_false, decide_eq_true_eq, decide_eq_false_iff_not, Bool.not_eq_true', Bool.not_eq_false', Bool.true_eq_false, Bool.false_eq_true, if_true, if_false, Bool.not_true, Bool.not_false, ite_true, ite_false, Int.cast_ofNat_Int, Int.reduceAdd, Int.reduceSub, Int.reduceEq, Int.reduceLT, Int.reduceLE, Int.natCast_add, Nat.reduceEqDiff, Nat.reduceAdd, Nat.add_zero, Nat.zero_add, Nat.succ_ne_zero, not_true_eq_false, not_false_eq_true, Option.getD_some, Option.getD_none]
  refine ⟨by decide, by decide, for_range (n := 6) (fun _ σ M' => (∃ (x2 x3 x4 x5 x6 : Option W), σ = [some (.scr (ns.map W.int)), some (.ref a), x2, x3, x4, x5, x6]) ∧ Hs a s M') ⟨⟨_, _, _, _, _, rfl⟩, hs1⟩ (fun i σ M' K hi h hK => ?_) (fun σ M' h => ?_)⟩
  · obtain ⟨⟨x2, x3, x4, x5, x6, rfl⟩, hs2⟩ := h
    simp only [st_law_v18_3, f_l_mix, f_l_program, f_written, f_l_alike, f_read, f_l_text, dn, dX, dXs, dXo, dXi, dSc, d2, d1, dN, dVar, dC, dTup, dLst, dTru, dB, dChain, dIte, dNotV, dNotT, dJoinV, dJoinT, dNil, dCons, dCall, dBM, dIsi, dIsi2, dAttr, dMeth, dNew, dDget, dDin, dDnew, dKidx, dKin, dKget, dDisp, dFrz, dSlice, dNoPart, dPart, dAsg, dExpr, dRet, dIf, dFld, dSet, dDput, dNever, dFor, dNext, binP, cmpP, iSeqD, iRg1, iRg2, iZip, iEnumD, Tg.asg, setAll, List.set, List.map_cons, List.map_nil, subW, modW, fdivW, powW, ltW, leW, gtW, geW, newL, finD, frzO, tupW, listW, oneW, twoW, BI.w, ints_eq, add_int, add_str, add_tup, add_lst, mul_int, mul_lst, idx_tup, idx_lst, idx_scr, idx_str, len_tup, len_lst, len_scr, len_str, sl_tup, sl_lst, neg_int, str_int, str_str, int_int, int_bl, is_non, is_int, is_str, is_tup, is_lst, is_bl, is_bb, eq_int, eq_str, eq_bl, ne_int, ne_str, ne_bl, eq_nilL, ty_non, ty_bl, ty_int, ty_str, ty_tup, ty_lst, ty_scr, ty_dk, Ty.sub, tr_bl, tr_non, tr_int, tr_str, sv_lst, sv_tup, sv_scr, lv_lst, at0, at1, at2, cut1, len0, ss_nil, for_nil, for_cons, pairs_cons, pairs_nil, pairs_nil', walk_lst, walk_scr, walk_tup, walk_str, walk_ref, List.getElem?_cons_zero, List.getElem?_cons_succ, List.length_cons, List.length_nil, List.append_nil, List.cons_append, List.nil_append, Option.some.injEq, W.int.injEq, W.str.injEq, W.bl.injEq, W.tup.injEq, W.lst.injEq, W.ref.injEq, List.cons.injEq, Option.map_some, exists_and_left, exists_and_right, exists_eq_left, exists_eq_left', exists_eq, exists_eq', exists_eq_right, exists_eq_right', and_true, true_and, and_assoc, reduceIte, reduceCtorEq, decide_true, decide_false, decide_eq_true_eq, decide_eq_false_iff_not, Bool.not_eq_true', Bool.not_eq_false', Bool.true_eq_false, Bool.false_eq_true, if_true, if_false, Bool.not_true, Bool.not_false, ite_true, ite_false, Int.cast_ofNat_Int, Int.reduceAdd, Int.reduceSub, Int.reduceEq, Int.reduceLT, Int.reduceLE, Int.natCast_add, Nat.reduceEqDiff, Nat.reduceAdd, Nat.add_zero, Nat.zero_add, Nat.succ_ne_zero, not_true_eq_false, not_false_eq_true, Option.getD_some, Option.getD_none]
    refine ⟨a, s, 8, rfl, hs2, by decide, by decide, by omega, fun p M2 ok _ hs3 fr3 => ?_⟩
    have h8 := ok.l8
    simp only [st_law_v18_4, encP, dLc, wipeW, BM.recv, BM.w, dX, dXs, dXo, dXi, dSc, d2, d1, dN, dVar, dC, dTup, dLst, dTru, dB, dChain, dIte, dNotV, dNotT, dJoinV, dJoinT, dNil, dCons, dCall, dBM, dIsi, dIsi2, dAttr, dMeth, dNew, dDget, dDin, dDnew, dKidx, dKin, dKget, dDisp, dFrz, dSlice, dNoPart, dPart, dAsg, dExpr, dRet, dIf, dFld, dSet, dDput, dNever, dFor, dNext, binP, cmpP, iSeqD, iRg1, iRg2, iZip, iEnumD, Tg.asg, setAll, List.set, List.map_cons, List.map_nil, subW, modW, fdivW, powW, ltW, leW, gtW, geW, newL, finD, frzO, tupW, listW, oneW, twoW, BI.w, ints_eq, add_int, add_str, add_tup, add_lst, mul_int, mul_lst, idx_tup, idx_lst, idx_scr, idx_str, len_tup, len_lst, len_scr, len_str, sl_tup, sl_lst, neg_int, str_int, str_str, int_int, int_bl, is_non, is_int, is_str, is_tup, is_lst, is_bl, is_bb, eq_int, eq_str, eq_bl, ne_int, ne_str, ne_bl, eq_nilL, ty_non, ty_bl, ty_int, ty_str, ty_tup, ty_lst, ty_scr, ty_dk, Ty.sub, tr_bl, tr_non, tr_int, tr_str, sv_lst, sv_tup, sv_scr, lv_lst, at0, at1, at2, cut1, len0, ss_nil, for_nil, for_cons, pairs_cons, pairs_nil, pairs_nil', walk_lst, walk_scr, walk_tup, walk_str, walk_ref, List.getElem?_cons_zero, List.getElem?_cons_succ, List.length_cons, List.length_nil, List.append_nil, List.cons_append, List.nil_append, Option.some.injEq, W.int.injEq, W.str.injEq, W.bl.injEq, W.tup.injEq, W.lst.injEq, W.ref.injEq, List.cons.injEq, Option.map_some, exists_and_left, exists_and_right, exists_eq_left, exists_eq_left', exists_eq, exists_eq', exists_eq_right, exists_eq_right', and_true, true_and, and_assoc, reduceIte, reduceCtorEq, decide_true, decide_false, decide_eq_true_eq, decide_eq_false_iff_not, Bool.not_eq_true', Bool.not_eq_false', Bool.true_eq_false, Bool.false_eq_true, if_true, if_false, Bool.not_true, Bool.not_false, ite_true, ite_false, Int.cast_ofNat_Int, Int.reduceAdd, Int.reduceSub, Int.reduceEq, Int.reduceLT, Int.reduceLE, Int.natCast_add, Nat.reduceEqDiff, Nat.reduceAdd, Nat.add_zero, Nat.zero_add, Nat.succ_ne_zero, not_true_eq_false, not_false_eq_true, Option.getD_some, Option.getD_none]
    refine ⟨rfl, szl (by rw [List.length_map]; omega), lc_of (p.map fun f => (encF f, some (.str (lineS f)))) (by simp [Function.comp]) (fun _ _ _ => trivial) (fun D hD pr hp us => ?_) ?_⟩
    · obtain ⟨f, hf, rfl⟩ := List.mem_map.mp hp
      have fo := ok.ok f hf
      have hcnt := fo.cnt
      have hht := fo.ht
      have hs8 := fo.s8
      refine ⟨_, rfl, fun R h => h, fun y hy R h => ?_⟩
      cases hy
      simp only [f_l_mix, f_l_program, f_written, f_l_alike, f_read, f_l_text, dn, dX, dXs, dXo, dXi, dSc, d2, d1, dN, dVar, dC, dTup, dLst, dTru, dB, dChain, dIte, dNotV, dNotT, dJoinV, dJoinT, dNil, dCons, dCall, dBM, dIsi, dIsi2, dAttr, dMeth, dNew, dDget, dDin, dDnew, dKidx, dKin, dKget, dDisp, dFrz, dSlice, dNoPart, dPart, dAsg, dExpr, dRet, dIf, dFld, dSet, dDput, dNever, dFor, dNext, binP, cmpP, iSeqD, iRg1, iRg2, iZip, iEnumD, Tg.asg, setAll, List.set, List.map_cons, List.map_nil, subW, modW, fdivW, powW, ltW, leW, gtW, geW, newL, finD, frzO, tupW, listW, oneW, twoW, BI.w, ints_eq, add_int, add_str, add_tup, add_lst, mul_int, mul_lst, idx_tup, idx_lst, idx_scr, idx_str, len_tup, len_lst, len_scr, len_str, sl_tup, sl_lst, neg_int, str_int, str_str, int_int, int_bl, is_non, is_int, is_str, is_tup, is_lst, is_bl, is_bb, eq_int, eq_str, eq_bl, ne_int, ne_str, ne_bl, eq_nilL, ty_non, ty_bl, ty_int, ty_str, ty_tup, ty_lst, ty_scr, ty_dk, Ty.sub, tr_bl, tr_non, tr_int, tr_str, sv_lst, sv_tup, sv_scr, lv_lst, at0, at1, at2, cut1, len0, ss_nil, for_nil, for_cons, pairs_cons, pairs_nil, pairs_nil', walk_lst, walk_scr, walk_tup, walk_str, walk_ref, List.getElem?_cons_zero, List.getElem?_cons_succ, List.length_cons, List.length_nil, List.append_nil, List.cons_append, List.nil_append, Option.some.injEq, W.int.injEq, W.str.injEq, W.bl.injEq, W.tup.injEq, W.lst.injEq, W.ref.injEq, List.cons.injEq, Option.map_some, exists_and_left, exists_and_right, exists_eq_left, exists_eq_left', exists_eq, exists_eq', exists_eq_right, exists_eq_right', and_true, true_and, and_assoc, reduceIte, reduceCtorEq, decide_true, decide_false, decide_eq_true_eq, decide_eq_false_iff_not, Bool.not_eq_true', Bool.not_eq_false', Bool.true_eq_false, Bool.false_eq_true, if_true, if_false, Bool.not_true, Bool.not_false, ite_true, ite_false, Int.cast_ofNat_Int, Int.reduceAdd, Int.reduceSub, Int.reduceEq, Int.reduceLT, Int.reduceLE, Int.natCast_add, Nat.reduceEqDiff, Nat.reduceAdd, Nat.add_zero, Nat.zero_add, Nat.succ_ne_zero, not_true_eq_false, not_false_eq_true, Option.getD_some, Option.getD_none]
      have l1 : Str.length (Str.ofString (toString (f.1 : Int))) ≤ 2 := len_num (n := f.1) (by omega)
      have l2 := Bd.text_len (m := p.length) (by omega) fo.ok
      refine ⟨log_num (by omega), szl (by rw [sp1]; omega), f.2, p.length, rfl, fo.ok, by omega, by omega, by omega, ?_⟩
      simp only [dX, dXs, dXo, dXi, dSc, d2, d1, dN, dVar, dC, dTup, dLst, dTru, dB, dChain, dIte, dNotV, dNotT, dJoinV, dJoinT, dNil, dCons, dCall, dBM, dIsi, dIsi2, dAttr, dMeth, dNew, dDget, dDin, dDnew, dKidx, dKin, dKget, dDisp, dFrz, dSlice, dNoPart, dPart, dAsg, dExpr, dRet, dIf, dFld, dSet, dDput, dNever, dFor, dNext, binP, cmpP, iSeqD, iRg1, iRg2, iZip, iEnumD, Tg.asg, setAll, List.set, List.map_cons, List.map_nil, subW, modW, fdivW, powW, ltW, leW, gtW, geW, newL, finD, frzO, tupW, listW, oneW, twoW, BI.w, ints_eq, add_int, add_str, add_tup, add_lst, mul_int, mul_lst, idx_tup, idx_lst, idx_scr, idx_str, len_tup, len_lst, len_scr, len_str, sl_tup, sl_lst, neg_int, str_int, str_str, int_int, int_bl, is_non, is_int, is_str, is_tup, is_lst, is_bl, is_bb, eq_int, eq_str, eq_bl, ne_int, ne_str, ne_bl, eq_nilL, ty_non, ty_bl, ty_int, ty_str, ty_tup, ty_lst, ty_scr, ty_dk, Ty.sub, tr_bl, tr_non, tr_int, tr_str, sv_lst, sv_tup, sv_scr, lv_lst, at0, at1, at2, cut1, len0, ss_nil, for_nil, for_cons, pairs_cons, pairs_nil, pairs_nil', walk_lst, walk_scr, walk_tup, walk_str, walk_ref, List.getElem?_cons_zero, List.getElem?_cons_succ, List.length_cons, List.length_nil, List.append_nil, List.cons_append, List.nil_append, Option.some.injEq, W.int.injEq, W.str.injEq, W.bl.injEq, W.tup.injEq, W.lst.injEq, W.ref.injEq, List.cons.injEq, Option.map_some, exists_and_left, exists_and_right, exists_eq_left, exists_eq_left', exists_eq, exists_eq', exists_eq_right, exists_eq_right', and_true, true_and, and_assoc, reduceIte, reduceCtorEq, decide_true, decide_false, decide_eq_true_eq, decide_eq_false_iff_not, Bool.not_eq_true', Bool.not_eq_false', Bool.true_eq_false, Bool.false_eq_true, if_true, if_false, Bool.not_true, Bool.not_false, ite_true, ite_false, Int.cast_ofNat_Int, Int.reduceAdd, Int.reduceSub, Int.reduceEq, Int.reduceLT, Int.reduceLE, Int.natCast_add, Nat.reduceEqDiff, Nat.reduceAdd, Nat.add_zero, Nat.zero_add, Nat.succ_ne_zero, not_true_eq_false, not_false_eq_true, Option.getD_some, Option.getD_none]
      refine ⟨szl (by rw [len_app, sp1]; omega), ?_⟩
      have := lineS_eq f
      unfold numS at this
      rw [← this]
      exact h
    · refine ⟨p.map lineS, by rw [sv_lst, fm_some, List.map_map]; rfl, by have := prog_size ok; rw [nl1]; omega, ?_⟩
      simp only [st_law_v18_5, f_l_mix, f_l_program, f_written, f_l_alike, f_read, f_l_text, dn, dX, dXs, dXo, dXi, dSc, d2, d1, dN, dVar, dC, dTup, dLst, dTru, dB, dChain, dIte, dNotV, dNotT, dJoinV, dJoinT, dNil, dCons, dCall, dBM, dIsi, dIsi2, dAttr, dMeth, dNew, dDget, dDin, dDnew, dKidx, dKin, dKget, dDisp, dFrz, dSlice, dNoPart, dPart, dAsg, dExpr, dRet, dIf, dFld, dSet, dDput, dNever, dFor, dNext, binP, cmpP, iSeqD, iRg1, iRg2, iZip, iEnumD, Tg.asg, setAll, List.set, List.map_cons, List.map_nil, subW, modW, fdivW, powW, ltW, leW, gtW, geW, newL, finD, frzO, tupW, listW, oneW, twoW, BI.w, ints_eq, add_int, add_str, add_tup, add_lst, mul_int, mul_lst, idx_tup, idx_lst, idx_scr, idx_str, len_tup, len_lst, len_scr, len_str, sl_tup, sl_lst, neg_int, str_int, str_str, int_int, int_bl, is_non, is_int, is_str, is_tup, is_lst, is_bl, is_bb, eq_int, eq_str, eq_bl, ne_int, ne_str, ne_bl, eq_nilL, ty_non, ty_bl, ty_int, ty_str, ty_tup, ty_lst, ty_scr, ty_dk, Ty.sub, tr_bl, tr_non, tr_int, tr_str, sv_lst, sv_tup, sv_scr, lv_lst, at0, at1, at2, cut1, len0, ss_nil, for_nil, for_cons, pairs_cons, pairs_nil, pairs_nil', walk_lst, walk_scr, walk_tup, walk_str, walk_ref, List.getElem?_cons_zero, List.getElem?_cons_succ, List.length_cons, List.length_nil, List.append_nil, List.cons_append, List.nil_append, Option.some.injEq, W.int.injEq, W.str.injEq, W.bl.injEq, W.tup.injEq, W.lst.injEq, W.ref.injEq, List.cons.injEq, Option.map_some, exists_and_left, exists_and_right, exists_eq_left, exists_eq_left', exists_eq, exists_eq', exists_eq_right, exists_eq_right', and_true, true_and, and_assoc, reduceIte, reduceCtorEq, decide_true, decide_false, decide_eq_true_eq, decide_eq_false_iff_not, Bool.not_eq_true', Bool.not_eq_false', Bool.true_eq_false, Bool.false_eq_true, if_true, if_false, Bool.not_true, Bool.not_false, ite_true, ite_false, Int.cast_ofNat_Int, Int.reduceAdd, Int.reduceSub, Int.reduceEq, Int.reduceLT, Int.reduceLE, Int.natCast_add, Nat.reduceEqDiff, Nat.reduceAdd, Nat.add_zero, Nat.zero_add, Nat.succ_ne_zero, not_true_eq_false, not_false_eq_true, Option.getD_some, Option.getD_none]
      refine ⟨p, rfl, ok, by omega, ?_⟩
      simp only [dX, dXs, dXo, dXi, dSc, d2, d1, dN, dVar, dC, dTup, dLst, dTru, dB, dChain, dIte, dNotV, dNotT, dJoinV, dJoinT, dNil, dCons, dCall, dBM, dIsi, dIsi2, dAttr, dMeth, dNew, dDget, dDin, dDnew, dKidx, dKin, dKget, dDisp, dFrz, dSlice, dNoPart, dPart, dAsg, dExpr, dRet, dIf, dFld, dSet, dDput, dNever, dFor, dNext, binP, cmpP, iSeqD, iRg1, iRg2, iZip, iEnumD, Tg.asg, setAll, List.set, List.map_cons, List.map_nil, subW, modW, fdivW, powW, ltW, leW, gtW, geW, newL, finD, frzO, tupW, listW, oneW, twoW, BI.w, ints_eq, add_int, add_str, add_tup, add_lst, mul_int, mul_lst, idx_tup, idx_lst, idx_scr, idx_str, len_tup, len_lst, len_scr, len_str, sl_tup, sl_lst, neg_int, str_int, str_str, int_int, int_bl, is_non, is_int, is_str, is_tup, is_lst, is_bl, is_bb, eq_int, eq_str, eq_bl, ne_int, ne_str, ne_bl, eq_nilL, ty_non, ty_bl, ty_int, ty_str, ty_tup, ty_lst, ty_scr, ty_dk, Ty.sub, tr_bl, tr_non, tr_int, tr_str, sv_lst, sv_tup, sv_scr, lv_lst, at0, at1, at2, cut1, len0, ss_nil, for_nil, for_cons, pairs_cons, pairs_nil, pairs_nil', walk_lst, walk_scr, walk_tup, walk_str, walk_ref, List.getElem?_cons_zero, List.getElem?_cons_succ, List.length_cons, List.length_nil, List.append_nil, List.cons_append, List.nil_append, Option.some.injEq, W.int.injEq, W.str.injEq, W.bl.injEq, W.tup.injEq, W.lst.injEq, W.ref.injEq, List.cons.injEq, Option.map_some, exists_and_left, exists_and_right, exists_eq_left, exists_eq_left', exists_eq, exists_eq', exists_eq_right, exists_eq_right', and_true, true_and, and_assoc, reduceIte, reduceCtorEq, decide_true, decide_false, decide_eq_true_eq, decide_eq_false_iff_not, Bool.not_eq_true', Bool.not_eq_false', Bool.true_eq_false, Bool.false_eq_true, if_true, if_false, Bool.not_true, Bool.not_false, ite_true, ite_false, Int.cast_ofNat_Int, Int.reduceAdd, Int.reduceSub, Int.reduceEq, Int.reduceLT, Int.reduceLE, Int.natCast_add, Nat.reduceEqDiff, Nat.reduceAdd, Nat.add_zero, Nat.zero_add, Nat.succ_ne_zero, not_true_eq_false, not_false_eq_true, Option.getD_some, Option.getD_none]
      refine ⟨.str (progT p), rfl, by cases k <;> trivial, ?_⟩
      simp only [f_l_mix, f_l_program, f_written, f_l_alike, f_read, f_l_text, dn, dX, dXs, dXo, dXi, dSc, d2, d1, dN, dVar, dC, dTup, dLst, dTru, dB, dChain, dIte, dNotV, dNotT, dJoinV, dJoinT, dNil, dCons, dCall, dBM, dIsi, dIsi2, dAttr, dMeth, dNew, dDget, dDin, dDnew, dKidx, dKin, dKget, dDisp, dFrz, dSlice, dNoPart, dPart, dAsg, dExpr, dRet, dIf, dFld, dSet, dDput, dNever, dFor, dNext, binP, cmpP, iSeqD, iRg1, iRg2, iZip, iEnumD, Tg.asg, setAll, List.set, List.map_cons, List.map_nil, subW, modW, fdivW, powW, ltW, leW, gtW, geW, newL, finD, frzO, tupW, listW, oneW, twoW, BI.w, ints_eq, add_int, add_str, add_tup, add_lst, mul_int, mul_lst, idx_tup, idx_lst, idx_scr, idx_str, len_tup, len_lst, len_scr, len_str, sl_tup, sl_lst, neg_int, str_int, str_str, int_int, int_bl, is_non, is_int, is_str, is_tup, is_lst, is_bl, is_bb, eq_int, eq_str, eq_bl, ne_int, ne_str, ne_bl, eq_nilL, ty_non, ty_bl, ty_int, ty_str, ty_tup, ty_lst, ty_scr, ty_dk, Ty.sub, tr_bl, tr_non, tr_int, tr_str, sv_lst, sv_tup, sv_scr, lv_lst, at0, at1, at2, cut1, len0, ss_nil, for_nil, for_cons, pairs_cons, pairs_nil, pairs_nil', walk_lst, walk_scr, walk_tup, walk_str, walk_ref, List.getElem?_cons_zero, List.getElem?_cons_succ, List.length_cons, List.length_nil, List.append_nil, List.cons_append, List.nil_append, Option.some.injEq, W.int.injEq, W.str.injEq, W.bl.injEq, W.tup.injEq, W.lst.injEq, W.ref.injEq, List.cons.injEq, Option.map_some, exists_and_left, exists_and_right, exists_eq_left, exists_eq_left', exists_eq, exists_eq', exists_eq_right, exists_eq_right', and_true, true_and, and_assoc, reduceIte, reduceCtorEq, decide_true, decide_false, decide_eq_true_eq, decide_eq_false_iff_not, Bool.not_eq_true', Bool.not_eq_false', Bool.true_eq_false, Bool.false_eq_true, if_true, if_false, Bool.not_true, Bool.not_false, ite_true, ite_false, Int.cast_ofNat_Int, Int.reduceAdd, Int.reduceSub, Int.reduceEq, Int.reduceLT, Int.reduceLE, Int.natCast_add, Nat.reduceEqDiff, Nat.reduceAdd, Nat.add_zero, Nat.zero_add, Nat.succ_ne_zero, not_true_eq_false, not_false_eq_true, Option.getD_some, Option.getD_none]
      refine ⟨p, rfl, ok, by omega, fun M3 fr4 => ?_⟩
      simp only [dX, dXs, dXo, dXi, dSc, d2, d1, dN, dVar, dC, dTup, dLst, dTru, dB, dChain, dIte, dNotV, dNotT, dJoinV, dJoinT, dNil, dCons, dCall, dBM, dIsi, dIsi2, dAttr, dMeth, dNew, dDget, dDin, dDnew, dKidx, dKin, dKget, dDisp, dFrz, dSlice, dNoPart, dPart, dAsg, dExpr, dRet, dIf, dFld, dSet, dDput, dNever, dFor, dNext, binP, cmpP, iSeqD, iRg1, iRg2, iZip, iEnumD, Tg.asg, setAll, List.set, List.map_cons, List.map_nil, subW, modW, fdivW, powW, ltW, leW, gtW, geW, newL, finD, frzO, tupW, listW, oneW, twoW, BI.w, ints_eq, add_int, add_str, add_tup, add_lst, mul_int, mul_lst, idx_tup, idx_lst, idx_scr, idx_str, len_tup, len_lst, len_scr, len_str, sl_tup, sl_lst, neg_int, str_int, str_str, int_int, int_bl, is_non, is_int, is_str, is_tup, is_lst, is_bl, is_bb, eq_int, eq_str, eq_bl, ne_int, ne_str, ne_bl, eq_nilL, ty_non, ty_bl, ty_int, ty_str, ty_tup, ty_lst, ty_scr, ty_dk, Ty.sub, tr_bl, tr_non, tr_int, tr_str, sv_lst, sv_tup, sv_scr, lv_lst, at0, at1, at2, cut1, len0, ss_nil, for_nil, for_cons, pairs_cons, pairs_nil, pairs_nil', walk_lst, walk_scr, walk_tup, walk_str, walk_ref, List.getElem?_cons_zero, List.getElem?_cons_succ, List.length_cons, List.length_nil, List.append_nil, List.cons_append, List.nil_append, Option.some.injEq, W.int.injEq, W.str.injEq, W.bl.injEq, W.tup.injEq, W.lst.injEq, W.ref.injEq, List.cons.injEq, Option.map_some, exists_and_left, exists_and_right, exists_eq_left, exists_eq_left', exists_eq, exists_eq', exists_eq_right, exists_eq_right', and_true, true_and, and_assoc, reduceIte, reduceCtorEq, decide_true, decide_false, decide_eq_true_eq, decide_eq_false_iff_not, Bool.not_eq_true', Bool.not_eq_false', Bool.true_eq_false, Bool.false_eq_true, if_true, if_false, Bool.not_true, Bool.not_false, ite_true, ite_false, Int.cast_ofNat_Int, Int.reduceAdd, Int.reduceSub, Int.reduceEq, Int.reduceLT, Int.reduceLE, Int.natCast_add, Nat.reduceEqDiff, Nat.reduceAdd, Nat.add_zero, Nat.zero_add, Nat.succ_ne_zero, not_true_eq_false, not_false_eq_true, Option.getD_some, Option.getD_none]
      refine ⟨encP p, rfl, (prog_alk ok).mono (by omega), ?_⟩
      simp only [st_law_v18_6, f_l_mix, f_l_program, f_written, f_l_alike, f_read, f_l_text, dn, dX, dXs, dXo, dXi, dSc, d2, d1, dN, dVar, dC, dTup, dLst, dTru, dB, dChain, dIte, dNotV, dNotT, dJoinV, dJoinT, dNil, dCons, dCall, dBM, dIsi, dIsi2, dAttr, dMeth, dNew, dDget, dDin, dDnew, dKidx, dKin, dKget, dDisp, dFrz, dSlice, dNoPart, dPart, dAsg, dExpr, dRet, dIf, dFld, dSet, dDput, dNever, dFor, dNext, binP, cmpP, iSeqD, iRg1, iRg2, iZip, iEnumD, Tg.asg, setAll, List.set, List.map_cons, List.map_nil, subW, modW, fdivW, powW, ltW, leW, gtW, geW, newL, finD, frzO, tupW, listW, oneW, twoW, BI.w, ints_eq, add_int, add_str, add_tup, add_lst, mul_int, mul_lst, idx_tup, idx_lst, idx_scr, idx_str, len_tup, len_lst, len_scr, len_str, sl_tup, sl_lst, neg_int, str_int, str_str, int_int, int_bl, is_non, is_int, is_str, is_tup, is_lst, is_bl, is_bb, eq_int, eq_str, eq_bl, ne_int, ne_str, ne_bl, eq_nilL, ty_non, ty_bl, ty_int, ty_str, ty_tup, ty_lst, ty_scr, ty_dk, Ty.sub, tr_bl, tr_non, tr_int, tr_str, sv_lst, sv_tup, sv_scr, lv_lst, at0, at1, at2, cut1, len0, ss_nil, for_nil, for_cons, pairs_cons, pairs_nil, pairs_nil', walk_lst, walk_scr, walk_tup, walk_str, walk_ref, List.getElem?_cons_zero, List.getElem?_cons_succ, List.length_cons, List.length_nil, List.append_nil, List.cons_append, List.nil_append, Option.some.injEq, W.int.injEq, W.str.injEq, W.bl.injEq, W.tup.injEq, W.lst.injEq, W.ref.injEq, List.cons.injEq, Option.map_some, exists_and_left, exists_and_right, exists_eq_left, exists_eq_left', exists_eq, exists_eq', exists_eq_right, exists_eq_right', and_true, true_and, and_assoc, reduceIte, reduceCtorEq, decide_true, decide_false, decide_eq_true_eq, decide_eq_false_iff_not, Bool.not_eq_true', Bool.not_eq_false', Bool.true_eq_false, Bool.false_eq_true, if_true, if_false, Bool.not_true, Bool.not_false, ite_true, ite_false, Int.cast_ofNat_Int, Int.reduceAdd, Int.reduceSub, Int.reduceEq, Int.reduceLT, Int.reduceLE, Int.natCast_add, Nat.reduceEqDiff, Nat.reduceAdd, Nat.add_zero, Nat.zero_add, Nat.succ_ne_zero, not_true_eq_false, not_false_eq_true, Option.getD_some, Option.getD_none]
      refine ⟨p, rfl, ok, by omega, fun M4 fr5 => ?_⟩
      refine ⟨p, rfl, ok, by omega, ?_⟩
      simp only [progT, dX, dXs, dXo, dXi, dSc, d2, d1, dN, dVar, dC, dTup, dLst, dTru, dB, dChain, dIte, dNotV, dNotT, dJoinV, dJoinT, dNil, dCons, dCall, dBM, dIsi, dIsi2, dAttr, dMeth, dNew, dDget, dDin, dDnew, dKidx, dKin, dKget, dDisp, dFrz, dSlice, dNoPart, dPart, dAsg, dExpr, dRet, dIf, dFld, dSet, dDput, dNever, dFor, dNext, binP, cmpP, iSeqD, iRg1, iRg2, iZip, iEnumD, Tg.asg, setAll, List.set, List.map_cons, List.map_nil, subW, modW, fdivW, powW, ltW, leW, gtW, geW, newL, finD, frzO, tupW, listW, oneW, twoW, BI.w, ints_eq, add_int, add_str, add_tup, add_lst, mul_int, mul_lst, idx_tup, idx_lst, idx_scr, idx_str, len_tup, len_lst, len_scr, len_str, sl_tup, sl_lst, neg_int, str_int, str_str, int_int, int_bl, is_non, is_int, is_str, is_tup, is_lst, is_bl, is_bb, eq_int, eq_str, eq_bl, ne_int, ne_str, ne_bl, eq_nilL, ty_non, ty_bl, ty_int, ty_str, ty_tup, ty_lst, ty_scr, ty_dk, Ty.sub, tr_bl, tr_non, tr_int, tr_str, sv_lst, sv_tup, sv_scr, lv_lst, at0, at1, at2, cut1, len0, ss_nil, for_nil, for_cons, pairs_cons, pairs_nil, pairs_nil', walk_lst, walk_scr, walk_tup, walk_str, walk_ref, List.getElem?_cons_zero, List.getElem?_cons_succ, List.length_cons, List.length_nil, List.append_nil, List.cons_append, List.nil_append, Option.some.injEq, W.int.injEq, W.str.injEq, W.bl.injEq, W.tup.injEq, W.lst.injEq, W.ref.injEq, List.cons.injEq, Option.map_some, exists_and_left, exists_and_right, exists_eq_left, exists_eq_left', exists_eq, exists_eq', exists_eq_right, exists_eq_right', and_true, true_and, and_assoc, reduceIte, reduceCtorEq, decide_true, decide_false, decide_eq_true_eq, decide_eq_false_iff_not, Bool.not_eq_true', Bool.not_eq_false', Bool.true_eq_false, Bool.false_eq_true, if_true, if_false, Bool.not_true, Bool.not_false, ite_true, ite_false, Int.cast_ofNat_Int, Int.reduceAdd, Int.reduceSub, Int.reduceEq, Int.reduceLT, Int.reduceLE, Int.natCast_add, Nat.reduceEqDiff, Nat.reduceAdd, Nat.add_zero, Nat.zero_add, Nat.succ_ne_zero, not_true_eq_false, not_false_eq_true, Option.getD_some, Option.getD_none]
      exact hK _ _ ⟨⟨_, _, _, _, _, rfl⟩, fr5.hs (fr4.hs hs3)⟩
  · obtain ⟨⟨x2, x3, x4, x5, x6, rfl⟩, _⟩ := h
    simp only [st_law_v18_2, dX, dXs, dXo, dXi, dSc, d2, d1, dN, dVar, dC, dTup, dLst, dTru, dB, dChain, dIte, dNotV, dNotT, dJoinV, dJoinT, dNil, dCons, dCall, dBM, dIsi, dIsi2, dAttr, dMeth, dNew, dDget, dDin, dDnew, dKidx, dKin, dKget, dDisp, dFrz, dSlice, dNoPart, dPart, dAsg, dExpr, dRet, dIf, dFld, dSet, dDput, dNever, dFor, dNext, binP, cmpP, iSeqD, iRg1, iRg2, iZip, iEnumD, Tg.asg, setAll, List.set, List.map_cons, List.map_nil, subW, modW, fdivW, powW, ltW, leW, gtW, geW, newL, finD, frzO, tupW, listW, oneW, twoW, BI.w, ints_eq, add_int, add_str, add_tup, add_lst, mul_int, mul_lst, idx_tup, idx_lst, idx_scr, idx_str, len_tup, len_lst, len_scr, len_str, sl_tup, sl_lst, neg_int, str_int, str_str, int_int, int_bl, is_non, is_int, is_str, is_tup, is_lst, is_bl, is_bb, eq_int, eq_str, eq_bl, ne_int, ne_str, ne_bl, eq_nilL, ty_non, ty_bl, ty_int, ty_str, ty_tup, ty_lst, ty_scr, ty_dk, Ty.sub, tr_bl, tr_non, tr_int, tr_str, sv_lst, sv_tup, sv_scr, lv_lst, at0, at1, at2, cut1, len0, ss_nil, for_nil, for_cons, pairs_cons, pairs_nil, pairs_nil', walk_lst, walk_scr, walk_tup, walk_str, walk_ref, List.getElem?_cons_zero, List.getElem?_cons_succ, List.length_cons, List.length_nil, List.append_nil, List.cons_append, List.nil_append, Option.some.injEq, W.int.injEq, W.str.injEq, W.bl.injEq, W.tup.injEq, W.lst.injEq, W.ref.injEq, List.cons.injEq, Option.map_some, exists_and_left, exists_and_right, exists_eq_left, exists_eq_left', exists_eq, exists_eq', exists_eq_right, exists_eq_right', and_true, true_and, and_assoc, reduceIte, reduceCtorEq, decide_true, decide_false, decide_eq_true_eq, decide_eq_false_iff_not, Bool.not_eq_true', Bool.not_eq_false', Bool.true_eq_false, Bool.false_eq_true, if_true, if_false, Bool.not_true, Bool.not_false, ite_true, ite_false, Int.cast_ofNat_Int, Int.reduceAdd, Int.reduceSub, Int.reduceEq, Int.reduceLT, Int.reduceLE, Int.natCast_add, Nat.reduceEqDiff, Nat.reduceAdd, Nat.add_zero, Nat.zero_add, Nat.succ_ne_zero, not_true_eq_false, not_false_eq_true, Option.getD_some, Option.getD_none]
    exact q M'
end WL
namespace WL
open PySem PySem.Spec PyProof.Rows L2
def tvOf (e : DictEntry) : Option (Str × Int × Str) := match e.key, e.val with
  | .str x _, .str y _ => some (x, e.hash, y)
  | _, _ => none
def tvIn (P : Params) (tb : List (Str × Str)) : List (Option (Str × Int × Str)) := tb.map fun q => some (q.1, PyData.keyHash P q.1, q.2)
def dicV (K : PySem.W.Frag) (a : Addr) : Option (List (Option (Str × Int × Str))) := match K.lookup a with
  | some ⟨.type c, none, .dict es _, sl⟩ => (match decide (c = "dict") && (sl.isEmpty && !(a == sysModules)) with
    | true => some (es.toList.map tvOf)
    | false => none)
  | _ => none
theorem keys_tv {P : Params} : ∀ {l : List DictEntry} {tb : List (Str × Str)}, l.map tvOf = tvIn P tb → l.map He.keyOf = He.keysIn P (tb.map (·.1))
  | [], [], _ => rfl
  | [], _ :: _, h => by cases h
  | _ :: _, [], h => by cases h
  | e :: l, q :: tb, h => by
    have h : tvOf e :: l.map tvOf = some (q.1, PyData.keyHash P q.1, q.2) :: tvIn P tb := h
    injection h with h1 h2
    have ih := keys_tv h2
    show He.keyOf e :: l.map He.keyOf = some (q.1, PyData.keyHash P q.1) :: He.keysIn P (tb.map (·.1))
    rw [ih]
    congr 1
    unfold tvOf at h1
    unfold He.keyOf
    split at h1
    · rename_i x t y t2 hk hv
      rw [hk]
      have := Option.some.inj h1
      simp only [Prod.mk.injEq] at this
      rw [this.1, this.2.1]
    · cases h1
theorem dicV_W {K : PySem.W.Frag} {w : World} {a : Addr} {tb : List (Str × Str)} (h : dicV K a = some (tvIn w.params tb)) : He.dicW K a = some (He.keysIn w.params (tb.map (·.1))) := by
  unfold dicV at h
  unfold He.dicW
  split at h
  · rename_i c es n sl hl
    rw [hl]
    split at h
    · rename_i hc
      simp only [hc]
      rw [keys_tv (Option.some.inj h)]
    · cases h
  · cases h
def slook : List (Str × Str) → Str → Option Str
  | [], _ => none
  | (n, v) :: r, z => if z = n then some v else slook r z
theorem find_tv {P : Params} {z : Str} : ∀ {l : List DictEntry} {tb : List (Str × Str)}, l.map tvOf = tvIn P tb →
    (∀ v, slook tb z = some v → ∃ e t, l.find? (·.key.isStr z) = some e ∧ e.val = .str v t) ∧ (slook tb z = none → l.find? (·.key.isStr z) = none ∧ l.any (·.refKey) = false)
  | [], [], _ => ⟨fun _ h => (nomatch h), fun _ => ⟨rfl, rfl⟩⟩
  | [], _ :: _, h => by cases h
  | _ :: _, [], h => by cases h
  | e :: l, q :: tb, h => by
    have h : tvOf e :: l.map tvOf = some (q.1, PyData.keyHash P q.1, q.2) :: tvIn P tb := h
    injection h with h1 h2
    have ih := find_tv (z := z) h2
    obtain ⟨n, v⟩ := q
    unfold tvOf at h1
    split at h1
    · rename_i x t y t2 hk hv
      have h3 := Option.some.inj h1
      simp only [Prod.mk.injEq] at h3
      obtain ⟨rfl, _, rfl⟩ := h3
      have hs : e.key.isStr z = decide (z = x) := by
        rw [hk]
        show (x == z) = decide (z = x)
        by_cases q : z = x
        · subst q; simp
        · simp [q, Ne.symm q]
      have hr : e.refKey = false := by
        unfold DictEntry.refKey
        rw [hk]
      unfold slook
      rw [List.find?_cons, hs]
      by_cases hz : z = x
      · rw [if_pos hz, decide_eq_true hz]
        exact ⟨fun v hv' => (by cases hv'; exact ⟨e, t2, rfl, hv⟩), fun h => nomatch h⟩
      · rw [if_neg hz, decide_eq_false hz]
        refine ⟨ih.1, fun h => ⟨(ih.2 h).1, (by rw [List.any_cons, hr, (ih.2 h).2]; rfl)⟩⟩
    · cases h1
theorem tab_ok {K : PySem.W.Frag} {w : World} {a : Addr} {tb : List (Str × Str)} (h : dicV K a = some (tvIn w.params tb)) :
    (∃ es n, KDict K w a es n) ∧ ∀ z, ∃ r, PySem.W.nsIn K a z = some r ∧ (∀ v, slook tb z = some v → ∃ t, r = some (.str v t)) ∧ (slook tb z = none → r = none) := by
  refine ⟨He.dicW_ok (dicV_W h), fun z => ?_⟩
  unfold dicV at h
  split at h
  · rename_i c es n sl hl
    split at h
    · rename_i hc
      have f := find_tv (z := z) (Option.some.inj h)
      unfold PySem.W.nsIn
      rw [hl]
      cases hs : slook tb z with
      | none =>
        obtain ⟨h1, h2⟩ := f.2 hs
        refine ⟨none, ?_, fun _ q => (nomatch q), fun _ => rfl⟩
        simp only [h1, h2]
        rfl
      | some v =>
        obtain ⟨e, t, h1, h2⟩ := f.1 v hs
        refine ⟨some (.str v t), ?_, fun v' q => ⟨t, by cases q; rfl⟩, fun q => (nomatch q)⟩
        simp only [h1, h2]
    · cases h
  · cases h
abbrev AlW : Type := He.AlD × Option (List (Option (Str × Int × Str)))
def obsW (fa : List He.Fa) (fn : List He.DefD) (x : Str) (K : PySem.W.Frag) : AlW := (He.obsD fa fn K, dicV K (He.ga K x))
def valW (fn : List He.DefD) (tb : List (Str × Str)) (w : World) : AlW := (He.valD fn, some (tvIn w.params tb))
def SaysW (fa : List He.Fa) (fn : List He.DefD) (x : Str) (tb : List (Str × Str)) (w : World) (K : PySem.W.Frag) : Prop := obsW fa fn x K = valW fn tb w
def obsWG (n : Nat) (fa : List He.Fa) (fn : List He.DefD) (x : Str) (g : Addr → Option Obj) : AlW := obsW fa fn x (He.frG g (He.asD g n))
def hookW (n : Nat) (fa : List He.Fa) (fn : List He.DefD) (x : Str) (tb : List (Str × Str)) : PySem.W.Hook where
  α := AlW
  obs := fun s => obsWG n fa fn x s.heap.get?
  val := fun w => valW fn tb w
  says := fun w h => ∃ K : PySem.W.Frag, K.In h ∧ SaysW fa fn x tb w K
  of := fun _ _ e => ⟨_, He.frG_in, e⟩
  keeps := fun _ _ _ ⟨K, hK, c⟩ k => ⟨K, PySem.W.Frag.In.keeps hK k, c⟩
theorem obsWG_eq {n : Nat} {fa : List He.Fa} {fn : List He.DefD} {x : Str} {tb : List (Str × Str)} {g : Addr → Option Obj} {s : Shared} (h : ∀ a, g a = s.heap.get? a) : obsWG n fa fn x g = (hookW n fa fn x tb).obs s := by
  have e : g = s.heap.get? := funext h
  rw [e] <;> rfl
section
variable {fa : List He.Fa} {fn : List He.DefD} {x : Str} {tb : List (Str × Str)} {w : World} {K : PySem.W.Frag}
theorem SaysW.d (c : SaysW fa fn x tb w K) : He.SaysD fa fn K := congrArg (fun z : AlW => z.1) c
theorem SaysW.t (c : SaysW fa fn x tb w K) : dicV K (He.ga K x) = some (tvIn w.params tb) := congrArg (fun z : AlW => z.2) c
end
def tbW (tb : List (Str × Str)) : List (Str × W) := tb.map fun q => (q.1, .str q.2)
theorem tlook_tb {z : Str} : ∀ {tb : List (Str × Str)}, tlook (tbW tb) z = (slook tb z).map W.str
  | [] => rfl
  | (n, v) :: r => by
    show (if z = n then some (W.str v) else tlook (tbW r) z) = _
    unfold slook
    by_cases h : z = n
    · rw [if_pos h, if_pos h]; rfl
    · rw [if_neg h, if_neg h]; exact tlook_tb
theorem kd_of {T : Tb} {w : World} {a : Addr} {tb : List (Str × Str)} (h : dicV T.K a = some (tvIn w.params tb)) : ∃ es n, KDict T.K w a es n ∧
    ∀ z, ∃ r, PySem.W.nsIn T.K a z = some r ∧ (∀ y, tlook (tbW tb) z = some y → ∃ u v, r = some u ∧ RelV v u ∧ ∀ F H, RW T F H y v) ∧ (tlook (tbW tb) z = none → r = none) := by
  obtain ⟨⟨es, n, hk⟩, hz⟩ := tab_ok h
  refine ⟨es, n, hk, fun z => ?_⟩
  obtain ⟨r, h1, h2, h3⟩ := hz z
  refine ⟨r, h1, fun y hy => ?_, fun hy => ?_⟩
  · rw [tlook_tb] at hy
    cases hs : slook tb z with
    | none => rw [hs] at hy; cases hy
    | some v =>
      rw [hs] at hy
      cases hy
      obtain ⟨t, ht⟩ := h2 v hs
      exact ⟨_, .str v, ht, ⟨t, rfl⟩, fun F H => RW.str_.mpr rfl⟩
  · rw [tlook_tb] at hy
    cases hs : slook tb z with
    | none => exact h3 hs
    | some v => rw [hs] at hy; cases hy
end WL
namespace WL
open PySem PySem.Spec PyProof.Rows L2
def fnA : Stmt → Arguments
  | .FunctionDef (args := a) .. => a
  | _ => ⟨[], [], none, [], [], none, []⟩
def fnB : Stmt → List Stmt
  | .FunctionDef (body := b) .. => b
  | _ => []
def fnS : Stmt → Scope
  | .FunctionDef (scope := s) .. => s
  | _ => ⟨.function, [], false, false, []⟩
theorem lookup_in {α β : Type} [BEq α] [LawfulBEq α] {f : α} {x : β} : ∀ {l : List (α × β)}, l.lookup f = some x → (f, x) ∈ l
  | [], h => by cases h
  | (g, y) :: l, h => by
    rw [List.lookup_cons] at h
    cases e : f == g with
    | true =>
      rw [e] at h
      cases h
      rw [eq_of_beq e]
      exact List.mem_cons_self ..
    | false =>
      rw [e] at h
      exact List.mem_cons_of_mem _ (lookup_in h)
theorem all_of {β : Type} {l : List (Nat × β)} {P : Nat → β → Prop} (h : ∀ q ∈ l, P q.1 q.2) : ∀ f x, l.lookup f = some x → P f x := fun _ _ e => h _ (lookup_in e)
theorem all_of2 {β : Type} {l : List ((Nat × Nat) × β)} {P : Nat → Nat → β → Prop} (h : ∀ q ∈ l, P q.1.1 q.1.2 q.2) : ∀ c m x, l.lookup (c, m) = some x → P c m x := fun _ _ _ e => h _ (lookup_in e)
theorem _root_.He.SaysD.all {fa : List He.Fa} {fn : List He.DefD} {K : PySem.W.Frag} (c : He.SaysD fa fn K) {f : He.Fa} (h : f ∈ fa) : f.ok K = true := by
  have c1 := (He.ba (show ((fa.all fun f => f.ok K) && fn.all fun d => d.ok K) = true from congrArg (fun z : He.AlD => z.1) c)).1
  exact List.all_eq_true.mp c1 f h
theorem gl_int {T : Tb} {mg : Str → Option Value} {x : Str} {i : Int} (h : ∃ t, mg x = some (.int i t)) : ∃ u v, mg x = some u ∧ RelV v u ∧ ∀ F H, RW T F H (.int i) v := by
  obtain ⟨t, h⟩ := h
  exact ⟨_, .int i, h, ⟨t, rfl⟩, fun _ _ => RW.int_.mpr rfl⟩
theorem gl_str {T : Tb} {mg : Str → Option Value} {x z : Str} (h : ∃ t, mg x = some (.str z t)) : ∃ u v, mg x = some u ∧ RelV v u ∧ ∀ F H, RW T F H (.str z) v := by
  obtain ⟨t, h⟩ := h
  exact ⟨_, .str z, h, ⟨t, rfl⟩, fun _ _ => RW.str_.mpr rfl⟩
theorem kd_says {T : Tb} {w : World} {mg : Str → Option Value} {x : Str} {a : Addr} {tb : List (Str × W)} (h : mg x = some (.ref a)) (k : ∃ es n, KDict T.K w a es n ∧
    ∀ z, ∃ r, PySem.W.nsIn T.K a z = some r ∧ (∀ y, tlook tb z = some y → ∃ u v, r = some u ∧ RelV v u ∧ ∀ F H, RW T F H y v) ∧ (tlook tb z = none → r = none)) :
    ∃ d es n, mg x = some (.ref d) ∧ KDict T.K w d es n ∧
    ∀ z, ∃ r, PySem.W.nsIn T.K d z = some r ∧ (∀ y, tlook tb z = some y → ∃ u v, r = some u ∧ RelV v u ∧ ∀ F H, RW T F H y v) ∧ (tlook tb z = none → r = none) := by
  obtain ⟨es, n, h1, h2⟩ := k
  exact ⟨a, es, n, h, h1, h2⟩
theorem ints_rws {T : Tb} {F : Addr → Prop} {H : Hp} : ∀ ns : List Int, RWs T F H (ns.map W.int) (ns.map V.int)
  | [] => .nil
  | _ :: ns => .cons (RW.int_.mpr rfl) (ints_rws ns)
theorem law_sp {T : Tb} {H : Hp} {a : Addr} {ns : List Int} {p : Wp} (h : SqL T.K H a (ns.map V.int)) (hp : p [.scr (ns.map W.int)] (fun _ => none) (fun w _ => w = .bl true) fun _ _ => False) :
    cP T p [.ref a] H (fun v _ => v = .bl true) fun _ _ _ => False := by
  refine ⟨fun b => b = a ∧ H a = some (.lst (ns.map V.int)), [.scr (ns.map W.int)], fun _ => none, _, _, .cons (RW.scr_.mpr ⟨a, _, rfl, ?_, ints_rws ns⟩) .nil, ⟨fun _ _ q => (nomatch q), fun b hb => ⟨.lst (ns.map V.int), by rw [hb.1]; exact hb.2, trivial⟩⟩, hp, fun w M' v H' F' e r S q => ?_, fun _ _ _ _ _ _ _ _ _ q => q.elim⟩
  · rcases h with (h | ⟨o, h⟩) | h
    · exact .inl ⟨⟨rfl, h⟩, h⟩
    · exact .inr (.inl ⟨o, h⟩)
    · exact .inr (.inr h)
  · subst q
    exact RW.bl_.mp r
def CXa : CXT := fun o H s E e s' => ∃ P w, L2.CX P w o H s E e s'
theorem cx_no {H : Hp} {s : Shared} {e : Value} {s' : Shared} (h : ∃ P w, L2.CX P w [] H s (fun _ _ _ => False) e s') : False := by
  obtain ⟨_, _, _, _, _, _, _, _, _, _, _, _, _, _, q⟩ := h
  exact q
theorem fnok_cx {P : Program} {w : World} {K : PySem.W.Frag} {mg : Str → Option Value} {base : Heap} {k : Nat} {f : Addr} {fd : FuncData} {ps : List Str} {sp : Sp} (F : FnOk P w K mg base (L2.CX P w) k f fd ps sp) : FnOk P w K mg base (fun o H s E e s' => ∃ P w, L2.CX P w o H s E e s') k f fd ps sp := by
  refine ⟨F.len, fun A outer s H args us vs Q E hr he hb hv hs => ?_⟩
  refine PySem.codeAny_mono (F.run A outer s H args us vs Q E hr he hb hv hs) fun r s' h => ?_
  cases r with
  | ok f => cases f <;> exact h
  | error e => exact ⟨P, w, h⟩
def LVL : Nat := 20
theorem law_use (ns : List Int) : sp_law_v18 LVL [.scr (ns.map W.int)] (fun _ => none) (fun w _ => w = .bl true) fun _ _ => False := ⟨ns, rfl, by decide, fun _ => rfl⟩
end WL
namespace WL
open PySem PySem.Spec PyProof.Rows L2
def top (i : Nat) : Stmt := PySem.Challenge.pw_overlayhall_k19_whole_written_and_read.main.body.getD i (.Pass ⟨0, 0, 0, 0⟩)
def inC (s : Stmt) (j : Nat) : Stmt := match s with
  | .ClassDef (body := b) .. => b.getD j (.Pass ⟨0, 0, 0, 0⟩)
  | _ => .Pass ⟨0, 0, 0, 0⟩
def clsName : Nat → Str
  | _ => "Reader"
def nmF : List (Nat × Str) := [(0, "is_number"), (1, "words_in"), (2, "is_function"), (3, "need_program"), (30, "written_words"), (31, "written"), (93, "read"), (44, "_law_mix"), (45, "_law_next"), (46, "_law_alike"), (47, "_law_leaf"), (48, "_law_call"), (49, "_law_less"), (50, "_law_body"), (51, "_law_words"), (52, "_law_program"), (94, "_law_text"), (57, "law")]
def nmC : List (Nat × Str) := [(22, "Reader")]
def nmG : List (Nat × Str) := [(0, "FIGURES"), (4, "MOST_FIGURES"), (5, "MOST_FUNCTIONS"), (6, "MOST_NUM"), (8, "MOST_SIZE"), (9, "MOST_WITHIN"), (10, "MOST_WORDS")]
def nmK : List (Nat × Str) := [(0, "ARMS")]
def nmM : Nat → Str
  | 19 => "taken"
  | 20 => "number"
  | 21 => "body"
  | 22 => "a_function"
  | _ => "__none__"
def flds : List Str := ["at", "row", "words"]
def frees : List Str := ["isinstance", "range", "zip", "enumerate", "len", "tuple", "list", "sum", "int", "str", "max", "bool"]
def nm : Nm := ⟨fun f => nmF.lookup f, fun c => nmC.lookup c, nmM, fun g => nmG.lookup g, fun g => nmK.lookup g, flds, frees⟩
def spG : Nat → W
  | 0 => .str "0123456789"
  | 4 => .int 2
  | 5 => .int 8
  | 6 => .int 99
  | 8 => .int 8
  | 9 => .int 6
  | 10 => .int 40
  | _ => .non
def spK : Nat → List (Str × W)
  | 0 => ARMS
  | _ => []
def spF : Nat → Nat → Wp
  | 0 => sp_is_number
  | 1 => sp_words_in
  | 2 => sp_is_function
  | 3 => sp_need_program
  | 30 => sp_written_words
  | 31 => sp_written
  | 93 => sp_read
  | 44 => sp_l_mix
  | 45 => sp_l_next
  | 46 => sp_l_alike
  | 47 => sp_l_leaf_v1
  | 48 => sp_l_call_v2
  | 49 => sp_l_less
  | 50 => sp_l_body_v1
  | 51 => sp_l_words
  | 52 => sp_l_program
  | 94 => sp_l_text
  | 57 => sp_law_v18
  | _ => fun _ => noP
def spI : Nat → Nat → Wp
  | 22 => sp_Reader_ini
  | _ => fun _ => noP
def spM : List ((Nat × Nat) × (Nat → Wp)) := [((22, 19), sp_Reader_taken), ((22, 20), sp_Reader_number), ((22, 21), sp_Reader_body), ((22, 22), sp_Reader_a_function)]
def Sx : Spx := ⟨spG, spK, spF, spI, fun c m => spM.lookup (c, m)⟩
def z_is_number : Fd := ⟨n_is_number, 3, c_is_number, fnA (top 11), fnB (top 11), fnS (top 11)⟩
theorem gd_is_number : z_is_number.Good nm := ⟨by decide +kernel, fun _ _ _ _ _ _ _ _ us hl => match us, hl with | [_, _, _], _ => rfl⟩
def z_words_in : Fd := ⟨n_words_in, 3, c_words_in, fnA (top 12), fnB (top 12), fnS (top 12)⟩
theorem gd_words_in : z_words_in.Good nm := ⟨by decide +kernel, fun _ _ _ _ _ _ _ _ us hl => match us, hl with | [_, _, _], _ => rfl⟩
def z_is_function : Fd := ⟨n_is_function, 2, c_is_function, fnA (top 13), fnB (top 13), fnS (top 13)⟩
theorem gd_is_function : z_is_function.Good nm := ⟨by decide +kernel, fun _ _ _ _ _ _ _ _ us hl => match us, hl with | [_, _], _ => rfl⟩
def z_need_program : Fd := ⟨n_need_program, 1, c_need_program, fnA (top 14), fnB (top 14), fnS (top 14)⟩
theorem gd_need_program : z_need_program.Good nm := ⟨by decide +kernel, fun _ _ _ _ _ _ _ _ us hl => match us, hl with | [_], _ => rfl⟩
def z_written_words : Fd := ⟨n_written_words, 1, c_written_words, fnA (top 18), fnB (top 18), fnS (top 18)⟩
theorem gd_written_words : z_written_words.Good nm := ⟨by decide +kernel, fun _ _ _ _ _ _ _ _ us hl => match us, hl with | [_], _ => rfl⟩
def z_written : Fd := ⟨n_written, 1, c_written, fnA (top 19), fnB (top 19), fnS (top 19)⟩
theorem gd_written : z_written.Good nm := ⟨by decide +kernel, fun _ _ _ _ _ _ _ _ us hl => match us, hl with | [_], _ => rfl⟩
def z_l_mix : Fd := ⟨n_l_mix, 2, c_l_mix, fnA (top 23), fnB (top 23), fnS (top 23)⟩
theorem gd_l_mix : z_l_mix.Good nm := ⟨by decide +kernel, fun _ _ _ _ _ _ _ _ us hl => match us, hl with | [_, _], _ => rfl⟩
def z_l_next : Fd := ⟨n_l_next, 2, c_l_next, fnA (top 24), fnB (top 24), fnS (top 24)⟩
theorem gd_l_next : z_l_next.Good nm := ⟨by decide +kernel, fun _ _ _ _ _ _ _ _ us hl => match us, hl with | [_, _], _ => rfl⟩
def z_l_alike : Fd := ⟨n_l_alike, 2, c_l_alike, fnA (top 25), fnB (top 25), fnS (top 25)⟩
theorem gd_l_alike : z_l_alike.Good nm := ⟨by decide +kernel, fun _ _ _ _ _ _ _ _ us hl => match us, hl with | [_, _], _ => rfl⟩
def z_l_less : Fd := ⟨n_l_less, 3, c_l_less, fnA (top 28), fnB (top 28), fnS (top 28)⟩
theorem gd_l_less : z_l_less.Good nm := ⟨by decide +kernel, fun _ _ _ _ _ _ _ _ us hl => match us, hl with | [_, _, _], _ => rfl⟩
def z_l_words : Fd := ⟨n_l_words, 1, c_l_words, fnA (top 30), fnB (top 30), fnS (top 30)⟩
theorem gd_l_words : z_l_words.Good nm := ⟨by decide +kernel, fun _ _ _ _ _ _ _ _ us hl => match us, hl with | [_], _ => rfl⟩
def z_l_program : Fd := ⟨n_l_program, 2, c_l_program, fnA (top 31), fnB (top 31), fnS (top 31)⟩
theorem gd_l_program : z_l_program.Good nm := ⟨by decide +kernel, fun _ _ _ _ _ _ _ _ us hl => match us, hl with | [_, _], _ => rfl⟩
def z_l_leaf_v1 : Fd := ⟨n_l_leaf_v1, 3, c_l_leaf_v1, fnA (top 26), fnB (top 26), fnS (top 26)⟩
theorem gd_l_leaf_v1 : z_l_leaf_v1.Good nm := ⟨by decide +kernel, fun _ _ _ _ _ _ _ _ us hl => match us, hl with | [_, _, _], _ => rfl⟩
def z_l_call_v2 : Fd := ⟨n_l_call_v2, 3, c_l_call_v2, fnA (top 27), fnB (top 27), fnS (top 27)⟩
theorem gd_l_call_v2 : z_l_call_v2.Good nm := ⟨by decide +kernel, fun _ _ _ _ _ _ _ _ us hl => match us, hl with | [_, _, _], _ => rfl⟩
def z_l_body_v1 : Fd := ⟨n_l_body_v1, 4, c_l_body_v1, fnA (top 29), fnB (top 29), fnS (top 29)⟩
theorem gd_l_body_v1 : z_l_body_v1.Good nm := ⟨by decide +kernel, fun _ _ _ _ _ _ _ _ us hl => match us, hl with | [_, _, _, _], _ => rfl⟩
def z_Reader_ini : Fd := ⟨n_Reader_ini, 3, c_Reader_ini, fnA (inC (top 20) 0), fnB (inC (top 20) 0), fnS (inC (top 20) 0)⟩
theorem gd_Reader_ini : z_Reader_ini.Good nm := ⟨by decide +kernel, fun _ _ _ _ _ _ _ _ us hl => match us, hl with | [_, _, _], _ => rfl⟩
def z_Reader_taken : Fd := ⟨n_Reader_taken, 1, c_Reader_taken, fnA (inC (top 20) 1), fnB (inC (top 20) 1), fnS (inC (top 20) 1)⟩
theorem gd_Reader_taken : z_Reader_taken.Good nm := ⟨by decide +kernel, fun _ _ _ _ _ _ _ _ us hl => match us, hl with | [_], _ => rfl⟩
def z_Reader_number : Fd := ⟨n_Reader_number, 1, c_Reader_number, fnA (inC (top 20) 2), fnB (inC (top 20) 2), fnS (inC (top 20) 2)⟩
theorem gd_Reader_number : z_Reader_number.Good nm := ⟨by decide +kernel, fun _ _ _ _ _ _ _ _ us hl => match us, hl with | [_], _ => rfl⟩
def z_Reader_body : Fd := ⟨n_Reader_body, 1, c_Reader_body, fnA (inC (top 20) 3), fnB (inC (top 20) 3), fnS (inC (top 20) 3)⟩
theorem gd_Reader_body : z_Reader_body.Good nm := ⟨by decide +kernel, fun _ _ _ _ _ _ _ _ us hl => match us, hl with | [_], _ => rfl⟩
def z_Reader_a_function : Fd := ⟨n_Reader_a_function, 1, c_Reader_a_function, fnA (inC (top 20) 4), fnB (inC (top 20) 4), fnS (inC (top 20) 4)⟩
theorem gd_Reader_a_function : z_Reader_a_function.Good nm := ⟨by decide +kernel, fun _ _ _ _ _ _ _ _ us hl => match us, hl with | [_], _ => rfl⟩
def z_read : Fd := ⟨n_read, 1, c_read, fnA (top 21), fnB (top 21), fnS (top 21)⟩
theorem gd_read : z_read.Good nm := ⟨by decide +kernel, fun _ _ _ _ _ _ _ _ us hl => match us, hl with | [_], _ => rfl⟩
def z_l_text : Fd := ⟨n_l_text, 1, c_l_text, fnA (top 32), fnB (top 32), fnS (top 32)⟩
theorem gd_l_text : z_l_text.Good nm := ⟨by decide +kernel, fun _ _ _ _ _ _ _ _ us hl => match us, hl with | [_], _ => rfl⟩
def z_law_v18 : Fd := ⟨n_law_v18, 1, c_law_v18, fnA (top 33), fnB (top 33), fnS (top 33)⟩
theorem gd_law_v18 : z_law_v18.Good nm := ⟨by decide +kernel, fun _ _ _ _ _ _ _ _ us hl => match us, hl with | [_], _ => rfl⟩
def zF : Nat → Fd
  | 0 => z_is_number
  | 1 => z_words_in
  | 2 => z_is_function
  | 3 => z_need_program
  | 30 => z_written_words
  | 31 => z_written
  | 93 => z_read
  | 44 => z_l_mix
  | 45 => z_l_next
  | 46 => z_l_alike
  | 47 => z_l_leaf_v1
  | 48 => z_l_call_v2
  | 49 => z_l_less
  | 50 => z_l_body_v1
  | 51 => z_l_words
  | 52 => z_l_program
  | 94 => z_l_text
  | 57 => z_law_v18
  | _ => z_is_number
def zI : Nat → Fd
  | 22 => z_Reader_ini
  | _ => z_is_number
def zM : Nat → Nat → Fd
  | 22, 19 => z_Reader_taken
  | 22, 20 => z_Reader_number
  | 22, 21 => z_Reader_body
  | 22, 22 => z_Reader_a_function
  | _, _ => z_is_number
def Zx : Txt := ⟨zF, zI, zM⟩
theorem all_good : AllGood Sx nm Zx where
  fn := all_of fun q hq => by
    simp only [nmF, List.mem_cons, List.not_mem_nil, or_false] at hq
    rcases hq with rfl | rfl | rfl | rfl | rfl | rfl | rfl | rfl | rfl | rfl | rfl | rfl | rfl | rfl | rfl | rfl | rfl | rfl
    · exact gd_is_number
    · exact gd_words_in
    · exact gd_is_function
    · exact gd_need_program
    · exact gd_written_words
    · exact gd_written
    · exact gd_read
    · exact gd_l_mix
    · exact gd_l_next
    · exact gd_l_alike
    · exact gd_l_leaf_v1
    · exact gd_l_call_v2
    · exact gd_l_less
    · exact gd_l_body_v1
    · exact gd_l_words
    · exact gd_l_program
    · exact gd_l_text
    · exact gd_law_v18
  ini := all_of fun q hq => by
    simp only [nmC, List.mem_cons, List.not_mem_nil, or_false] at hq
    rcases hq with rfl
    · exact gd_Reader_ini
  me := all_of2 fun q hq => by
    simp only [spM, List.mem_cons, List.not_mem_nil, or_false] at hq
    rcases hq with rfl | rfl | rfl | rfl
    · exact gd_Reader_taken
    · exact gd_Reader_number
    · exact gd_Reader_body
    · exact gd_Reader_a_function
theorem all_keep : AllKeep Sx nm Zx where
  fn := all_of fun q hq => by
    simp only [nmF, List.mem_cons, List.not_mem_nil, or_false] at hq
    rcases hq with rfl | rfl | rfl | rfl | rfl | rfl | rfl | rfl | rfl | rfl | rfl | rfl | rfl | rfl | rfl | rfl | rfl | rfl
    · exact fun k => keep_is_number (k := k)
    · exact fun k => keep_words_in (k := k) rfl rfl rfl rfl rfl rfl
    · exact fun k => keep_is_function (k := k) rfl rfl rfl rfl
    · exact fun k => keep_need_program (k := k) rfl rfl
    · exact fun k => keep_written_words (k := k) rfl rfl
    · exact fun k => keep_written (k := k) rfl rfl
    · exact fun k => keep_read (k := k) rfl rfl rfl rfl
    · exact fun k => keep_l_mix (k := k)
    · exact fun k => keep_l_next (k := k)
    · exact fun k => keep_l_alike (k := k) rfl
    · exact fun k => keep_l_leaf_v1 (k := k) rfl
    · exact fun k => keep_l_call_v2 (k := k) rfl rfl rfl
    · exact fun k => keep_l_less (k := k) rfl rfl
    · exact fun k => keep_l_body_v1 (k := k) rfl rfl rfl rfl
    · exact fun k => keep_l_words (k := k) rfl
    · exact fun k => keep_l_program (k := k) rfl rfl rfl rfl
    · exact fun k => keep_l_text (k := k) rfl
    · exact fun k => keep_law_v18 (k := k) rfl rfl rfl rfl rfl rfl
  ini := all_of fun q hq => by
    simp only [nmC, List.mem_cons, List.not_mem_nil, or_false] at hq
    rcases hq with rfl
    · exact fun k => keep_Reader_ini (k := k)
  me := all_of2 fun q hq => by
    simp only [spM, List.mem_cons, List.not_mem_nil, or_false] at hq
    rcases hq with rfl | rfl | rfl | rfl
    · exact fun k => keep_Reader_taken (k := k)
    · exact fun k => keep_Reader_number (k := k) rfl rfl rfl rfl
    · exact fun k => keep_Reader_body (k := k) rfl rfl rfl rfl rfl rfl rfl
    · exact fun k => keep_Reader_a_function (k := k) rfl rfl rfl rfl
def faA : List He.Fa := [.glo "is_number", .glo "words_in", .glo "is_function", .glo "need_program", .glo "written_words", .glo "written", .glo "read", .glo "_law_mix", .glo "_law_next", .glo "_law_alike", .glo "_law_leaf", .glo "_law_call", .glo "_law_less", .glo "_law_body", .glo "_law_words", .glo "_law_program", .glo "_law_text", .glo "law", .glo "Reader", .cls "Reader", .mkr "Reader", .meth "Reader" "taken", .meth "Reader" "number", .meth "Reader" "body", .meth "Reader" "a_function", .glo "ARMS", .str "FIGURES" "0123456789", .int "MOST_FIGURES" 2, .int "MOST_FUNCTIONS" 8, .int "MOST_NUM" 99, .int "MOST_SIZE" 8, .int "MOST_WITHIN" 6, .int "MOST_WORDS" 40]
def faN : List He.Fa := (["Reader"] : List Str).flatMap fun c : Str => flds.map fun f => .noat c f
def fa : List He.Fa := faA ++ (faN ++ frees.map He.Fa.free)
def dds : List He.DefD := [⟨("is_number", none), "is_number", "is_number", fnA (top 11), fnB (top 11), fnS (top 11), [], []⟩,
  ⟨("words_in", none), "words_in", "words_in", fnA (top 12), fnB (top 12), fnS (top 12), [], []⟩,
  ⟨("is_function", none), "is_function", "is_function", fnA (top 13), fnB (top 13), fnS (top 13), [], []⟩,
  ⟨("need_program", none), "need_program", "need_program", fnA (top 14), fnB (top 14), fnS (top 14), [], []⟩,
  ⟨("written_words", none), "written_words", "written_words", fnA (top 18), fnB (top 18), fnS (top 18), [], []⟩,
  ⟨("written", none), "written", "written", fnA (top 19), fnB (top 19), fnS (top 19), [], []⟩,
  ⟨("read", none), "read", "read", fnA (top 21), fnB (top 21), fnS (top 21), [], []⟩,
  ⟨("_law_mix", none), "_law_mix", "_law_mix", fnA (top 23), fnB (top 23), fnS (top 23), [], []⟩,
  ⟨("_law_next", none), "_law_next", "_law_next", fnA (top 24), fnB (top 24), fnS (top 24), [], []⟩,
  ⟨("_law_alike", none), "_law_alike", "_law_alike", fnA (top 25), fnB (top 25), fnS (top 25), [], []⟩,
  ⟨("_law_leaf", none), "_law_leaf", "_law_leaf", fnA (top 26), fnB (top 26), fnS (top 26), [], []⟩,
  ⟨("_law_call", none), "_law_call", "_law_call", fnA (top 27), fnB (top 27), fnS (top 27), [], []⟩,
  ⟨("_law_less", none), "_law_less", "_law_less", fnA (top 28), fnB (top 28), fnS (top 28), [], []⟩,
  ⟨("_law_body", none), "_law_body", "_law_body", fnA (top 29), fnB (top 29), fnS (top 29), [], []⟩,
  ⟨("_law_words", none), "_law_words", "_law_words", fnA (top 30), fnB (top 30), fnS (top 30), [], []⟩,
  ⟨("_law_program", none), "_law_program", "_law_program", fnA (top 31), fnB (top 31), fnS (top 31), [], []⟩,
  ⟨("_law_text", none), "_law_text", "_law_text", fnA (top 32), fnB (top 32), fnS (top 32), [], []⟩,
  ⟨("law", none), "law", "law", fnA (top 33), fnB (top 33), fnS (top 33), [], []⟩,
  ⟨("Reader", some "__init__"), "__init__", "Reader.__init__", fnA (inC (top 20) 0), fnB (inC (top 20) 0), fnS (inC (top 20) 0), [], []⟩,
  ⟨("Reader", some "taken"), "taken", "Reader.taken", fnA (inC (top 20) 1), fnB (inC (top 20) 1), fnS (inC (top 20) 1), [], []⟩,
  ⟨("Reader", some "number"), "number", "Reader.number", fnA (inC (top 20) 2), fnB (inC (top 20) 2), fnS (inC (top 20) 2), [], []⟩,
  ⟨("Reader", some "body"), "body", "Reader.body", fnA (inC (top 20) 3), fnB (inC (top 20) 3), fnS (inC (top 20) 3), [], []⟩,
  ⟨("Reader", some "a_function"), "a_function", "Reader.a_function", fnA (inC (top 20) 4), fnB (inC (top 20) 4), fnS (inC (top 20) 4), [], []⟩]
def tbA : List (Str × Str) := [("num", "n"), ("argument", ""), ("way", "f"), ("plus", "xx"), ("less", "xx"), ("times", "xx"), ("if", "xxx"), ("then", "xx"), ("say", "x"), ("call", "fx"), ("through", "xx")]
def names0 : List Str := ["HallError", "BadProgram", "BadText", "MOST_FUNCTIONS", "MOST_SIZE", "MOST_NUM", "MOST_WORDS", "MOST_WITHIN", "ARMS", "is_number", "words_in", "is_function", "need_program", "FIGURES", "MOST_FIGURES", "written_words", "written", "Reader", "read", "_law_mix", "_law_next", "_law_alike", "_law_leaf", "_law_call", "_law_less", "_law_body", "_law_words", "_law_program", "_law_text"]
def names : List Str := names0
abbrev Rx : PySem.W.OpenRow := PySem.W.OpenLaw.row PySem.Challenge.rw_overlayhall_k19_whole_written_and_read
abbrev qv : Program := PySem.W.view Rx.prog [33]
abbrev hkx : PySem.W.Hook := hookW 5 fa dds "ARMS" tbA
def obx (s : PySem.W.SharedT) : AlW := obsWG 5 fa dds "ARMS" (HandSHeadRun.getT s)
theorem obx_eq (s : PySem.W.SharedT) : obx s = hkx.obs s.abs := obsWG_eq (HandSHeadRun.getT_eq s)
theorem runF (w : World) : HandSHeadRun.RunEq Rx qv hkx obx 6000 names (w.withFollow "special-get-raises" false) := by
  intro os
  kernel_rfl
theorem runT (w : World) : HandSHeadRun.RunEq Rx qv hkx obx 6000 names (w.withFollow "special-get-raises" true) := by
  intro os
  kernel_rfl
theorem runx (w : World) : HandSHeadRun.RunEq Rx qv hkx obx 6000 names w := PySem.W.byRow2 "special-get-raises" runF runT w
def Tx (K : PySem.W.Frag) : Tb := ⟨K, fun c => He.ga K (clsName c)⟩
theorem cls_in (c : Nat) : clsName c ∈ (["Reader"] : List Str) := List.mem_singleton.mpr rfl
theorem says {w : World} {K : PySem.W.Frag} {h : Heap} {mg : Str → Option Value} (X : K.In h) (G : h.Ns mainGlobals mg) (c : SaysW fa dds "ARMS" tbA w K) : Says Sx nm Zx (Tx K) w mg where
  fn := all_of fun q hq => by
    simp only [nmF, List.mem_cons, List.not_mem_nil, or_false] at hq
    rcases hq with rfl | rfl | rfl | rfl | rfl | rfl | rfl | rfl | rfl | rfl | rfl | rfl | rfl | rfl | rfl | rfl | rfl | rfl
    · exact ⟨_, (c.d.def_ 0 rfl).choose, _, He.glo_ok X G (c.d.fact 0 rfl), (c.d.def_ 0 rfl).choose_spec⟩
    · exact ⟨_, (c.d.def_ 1 rfl).choose, _, He.glo_ok X G (c.d.fact 1 rfl), (c.d.def_ 1 rfl).choose_spec⟩
    · exact ⟨_, (c.d.def_ 2 rfl).choose, _, He.glo_ok X G (c.d.fact 2 rfl), (c.d.def_ 2 rfl).choose_spec⟩
    · exact ⟨_, (c.d.def_ 3 rfl).choose, _, He.glo_ok X G (c.d.fact 3 rfl), (c.d.def_ 3 rfl).choose_spec⟩
    · exact ⟨_, (c.d.def_ 4 rfl).choose, _, He.glo_ok X G (c.d.fact 4 rfl), (c.d.def_ 4 rfl).choose_spec⟩
    · exact ⟨_, (c.d.def_ 5 rfl).choose, _, He.glo_ok X G (c.d.fact 5 rfl), (c.d.def_ 5 rfl).choose_spec⟩
    · exact ⟨_, (c.d.def_ 6 rfl).choose, _, He.glo_ok X G (c.d.fact 6 rfl), (c.d.def_ 6 rfl).choose_spec⟩
    · exact ⟨_, (c.d.def_ 7 rfl).choose, _, He.glo_ok X G (c.d.fact 7 rfl), (c.d.def_ 7 rfl).choose_spec⟩
    · exact ⟨_, (c.d.def_ 8 rfl).choose, _, He.glo_ok X G (c.d.fact 8 rfl), (c.d.def_ 8 rfl).choose_spec⟩
    · exact ⟨_, (c.d.def_ 9 rfl).choose, _, He.glo_ok X G (c.d.fact 9 rfl), (c.d.def_ 9 rfl).choose_spec⟩
    · exact ⟨_, (c.d.def_ 10 rfl).choose, _, He.glo_ok X G (c.d.fact 10 rfl), (c.d.def_ 10 rfl).choose_spec⟩
    · exact ⟨_, (c.d.def_ 11 rfl).choose, _, He.glo_ok X G (c.d.fact 11 rfl), (c.d.def_ 11 rfl).choose_spec⟩
    · exact ⟨_, (c.d.def_ 12 rfl).choose, _, He.glo_ok X G (c.d.fact 12 rfl), (c.d.def_ 12 rfl).choose_spec⟩
    · exact ⟨_, (c.d.def_ 13 rfl).choose, _, He.glo_ok X G (c.d.fact 13 rfl), (c.d.def_ 13 rfl).choose_spec⟩
    · exact ⟨_, (c.d.def_ 14 rfl).choose, _, He.glo_ok X G (c.d.fact 14 rfl), (c.d.def_ 14 rfl).choose_spec⟩
    · exact ⟨_, (c.d.def_ 15 rfl).choose, _, He.glo_ok X G (c.d.fact 15 rfl), (c.d.def_ 15 rfl).choose_spec⟩
    · exact ⟨_, (c.d.def_ 16 rfl).choose, _, He.glo_ok X G (c.d.fact 16 rfl), (c.d.def_ 16 rfl).choose_spec⟩
    · exact ⟨_, (c.d.def_ 17 rfl).choose, _, He.glo_ok X G (c.d.fact 17 rfl), (c.d.def_ 17 rfl).choose_spec⟩
  ini := all_of fun q hq => by
    simp only [nmC, List.mem_cons, List.not_mem_nil, or_false] at hq
    rcases hq with rfl
    · exact ⟨He.glo_ok X G (c.d.fact 18 rfl), _, (c.d.def_ 18 rfl).choose, _, He.mkr_ok (c.d.fact 20 rfl), (c.d.def_ 18 rfl).choose_spec⟩
  me := all_of2 fun q hq => by
    simp only [spM, List.mem_cons, List.not_mem_nil, or_false] at hq
    rcases hq with rfl | rfl | rfl | rfl
    · exact ⟨_, (c.d.def_ 19 rfl).choose, _, He.meth_ok (c.d.fact 21 rfl), (c.d.def_ 19 rfl).choose_spec⟩
    · exact ⟨_, (c.d.def_ 20 rfl).choose, _, He.meth_ok (c.d.fact 22 rfl), (c.d.def_ 20 rfl).choose_spec⟩
    · exact ⟨_, (c.d.def_ 21 rfl).choose, _, He.meth_ok (c.d.fact 23 rfl), (c.d.def_ 21 rfl).choose_spec⟩
    · exact ⟨_, (c.d.def_ 22 rfl).choose, _, He.meth_ok (c.d.fact 24 rfl), (c.d.def_ 22 rfl).choose_spec⟩
  gl := all_of fun q hq => by
    simp only [nmG, List.mem_cons, List.not_mem_nil, or_false] at hq
    rcases hq with rfl | rfl | rfl | rfl | rfl | rfl | rfl
    · exact gl_str (He.str_ok X G (c.d.fact 26 rfl))
    · exact gl_int (He.int_ok X G (c.d.fact 27 rfl))
    · exact gl_int (He.int_ok X G (c.d.fact 28 rfl))
    · exact gl_int (He.int_ok X G (c.d.fact 29 rfl))
    · exact gl_int (He.int_ok X G (c.d.fact 30 rfl))
    · exact gl_int (He.int_ok X G (c.d.fact 31 rfl))
    · exact gl_int (He.int_ok X G (c.d.fact 32 rfl))
  kd := all_of fun q hq => by
    simp only [nmK, List.mem_cons, List.not_mem_nil, or_false] at hq
    rcases hq with rfl
    · exact kd_says (He.glo_ok X G (c.d.fact 25 rfl)) (kd_of (T := Tx K) c.t)
  cls := fun c0 => by
    have h := cls_in c0
    simp only [List.mem_cons, List.not_mem_nil, or_false] at h
    show Cls K (He.ga K (clsName c0))
    rcases h with h
    · rw [h]; exact He.cls_ok (c.d.fact 19 rfl)
  noat := fun c0 f hf => He.noat_ok (c.d.all (List.mem_append_right _ (List.mem_append_left _ (List.mem_flatMap.mpr ⟨clsName c0, cls_in c0, List.mem_map_of_mem hf⟩))))
  free := fun x hx => He.free_ok X G (c.d.all (List.mem_append_right _ (List.mem_append_right _ (List.mem_map_of_mem (List.contains_iff_mem.mp hx)))))
theorem lawF {P : Program} {w : World} {K : PySem.W.Frag} {h : Heap} {mg : Str → Option Value} {f : Addr} (X : K.In h) (G : h.Ns mainGlobals mg) (hfa : mg ("law" : Str) = some (.ref f)) (c : SaysW fa dds "ARMS" tbA w K) :
    ∃ fd : FuncData, (∀ (s : Shared) (v : Value), BindsTo s fd ⟨[v], []⟩ [("_law_script", v)]) ∧ ∀ base : Heap, K.In base → base.Ns mainGlobals mg → FnOk P w K mg base (L2.CX P w) (LVL + 2) f fd ["_law_script"] (cP (Tx K) (sp_law_v18 LVL)) := by
  have sy := says X G c
  obtain ⟨fd, F⟩ := c.d.def_ 17 rfl
  have e := hfa.symm.trans (He.glo_ok X G (c.d.fact 17 rfl))
  cases e
  have b := FunD.bindsA (ps := ["_law_script"]) F fun _ _ _ _ _ _ us hl => match us, hl with | [_], _ => rfl
  exact ⟨fd, fun s v => b s [v] rfl, fun base _ _ => fn_all (T := Tx K) sy all_good all_keep (f := 57) (x := "law") rfl F LVL⟩
end WL
open PySem PySem.W PySem.Calls PyProof.Rows
theorem PySem.Challenge.cw_overlayhall_k19_whole_written_and_read_holds : PySem.Challenge.rw_overlayhall_k19_whole_written_and_read.Holds := by
  w_on; o_law
  refine HandSHeadRun.head_any (r := OpenLaw.row PySem.Challenge.rw_overlayhall_k19_whole_written_and_read) (q := view (OpenLaw.row PySem.Challenge.rw_overlayhall_k19_whole_written_and_read).prog [33]) (H := WL.hkx) (ob := WL.obx) (M := 6000) (loose := WL.names) (d := HandSHeadRun.topDef (OpenLaw.row PySem.Challenge.rw_overlayhall_k19_whole_written_and_read).prog 33) (kwd := []) WL.obx_eq
    (by kernel_rfl) (fun s => by kernel_rfl) WL.runx (by kernel_rfl) (by kernel_rfl) (by kernel_rfl) (by rfl) (by first | assumption | decide +kernel) (by decide +kernel) ⟨rfl, rfl, rfl, rfl, rfl, by decide +kernel⟩ ?hw ?hc
  case hw => w_witness2
  case hc =>
    refine L2.walk_ofE (l := PySem.Challenge.rw_overlayhall_k19_whole_written_and_read) (n := 63) (k := WL.LVL + 2) (x := "_law_script") (CX := fun o H s E e s' => ∃ P w, L2.CX P w o H s E e s') rfl (by decide) (by kernel_rfl) ⟨rfl, by decide, by decide⟩ ?F (fun H s e s' z => WL.cx_no z)
    intro w mg fa h Y G hmg0
    obtain ⟨K, KX, c⟩ := Y
    have hmg : mg ("law" : PySem.Str) = some (.ref fa) := by
      have e : (HandSHeadRun.topDef (OpenLaw.row PySem.Challenge.rw_overlayhall_k19_whole_written_and_read).prog 33).name = ("law" : PySem.Str) := by kernel_rfl
      rw [← e]
      exact hmg0
    obtain ⟨fd, hb, hF⟩ := WL.lawF (P := (PySem.Challenge.rw_overlayhall_k19_whole_written_and_read).prog) (w := w) KX G hmg c
    exact ⟨K, fd, _, KX, hb, fun H a ns hl _ hS => WL.law_sp (T := WL.Tx K) hS (WL.law_use ns), fun base h1 h2 => WL.fnok_cx (hF base h1 h2)⟩
