import PyProof.Rows.All
import PySem.Challenge.RW_burstapart_k83_whole_least_delays
import Wide.All
import OpenK.AllK
import Wide.FinOn
import HandS.ForMost
import HandS.ForExc
import HandS.CallSlots
import HandS.Lambda
import HandS.Strs
import HandS.SetBool
import HandS.TupAny
import HandS.TupMul
import HandS.Style
import HandS.Conv
import HandS.SetKeys
import HandS.Defaults
import KE.DatumIndex
import HandS.IsInst
import HandS.HeadWalk
import KE.GoesEnum
import KE.DataMinMax
import PyProof.SumWalkG
import PyProof.WalkInts
import HandS.Head0
import HandS.Head1
import HandS.Head2
import HandS.HeadEnd
import HandS.HeadHook1
import HandS.HeadHook2
set_option Elab.async false
set_option linter.all false
set_option maxRecDepth 100000
set_option maxHeartbeats 4000000
/-! Dl1: pure data, the store, how they lie in the abstract heap, results. -/
namespace Dl
open PySem PySem.Spec PyProof.Rows L2

inductive D where
  | non
  | bl (b : Bool)
  | int (i : Int)
  | str (x : Str)
  | tup (ds : List D)
  | lst (ds : List D)
  | dic (ks : List Key) (ds : List D)
  | set (xs : List Int)
  | obj (c : Nat) (ns : List Str) (ds : List D)
  | loc (n : Nat)
  | scr (ns : List Int)
  /-- a dict that is walked -/
  | lkd (ks : List Key) (ds : List D)
instance : Inhabited D := ⟨.non⟩

/-- what a law's text fixes: the fragment, the classes' addresses, the tables of code objects -/
structure En where
  K : PySem.W.Frag
  cm : Nat → Addr
  T : List (Addr × Str)
  w : World

/-- the store's addresses, and those that are hidden for now -/
structure Reg where
  l : List Addr
  z : List Addr
def Reg.out (r : Reg) (a : Addr) : Prop := a ∉ r.l ∧ a ∉ r.z
def TupAt (E : En) (r : Reg) (H : Hp) (a : Addr) (vs : List V) : Prop := (r.out a ∧ Rd H a (.tup vs)) ∨ SqT E.K (fun _ => none) a vs
def ScrAt (E : En) (r : Reg) (H : Hp) (a : Addr) (vs : List V) : Prop := (r.out a ∧ Rd H a (.lst vs)) ∨ SqL E.K (fun _ => none) a vs
def LstAt (r : Reg) (H : Hp) (a : Addr) (vs : List V) : Prop := r.out a ∧ H a = some (.lst vs)

mutual
def Rep (E : En) (r : Reg) (H : Hp) : D → V → Prop
  | .non, v => v = .non
  | .bl b, v => v = .bl b
  | .int i, v => v = .int i
  | .str x, v => v = .str x
  | .tup ds, v => ∃ a vs, v = .ref a ∧ TupAt E r H a vs ∧ RepL E r H ds vs
  | .lst ds, v => ∃ a vs, v = .ref a ∧ LstAt r H a vs ∧ RepL E r H ds vs
  | .dic ks ds, v => ∃ a kvs, v = .ref a ∧ r.out a ∧ H a = some (.dK kvs) ∧ kvs.map (·.1) = ks ∧ RepL E r H ds (kvs.map (·.2))
  | .set xs, v => ∃ a, v = .ref a ∧ r.out a ∧ H a = some (SetO E.w a (fun i => decide (i ∈ xs)) xs.length) ∧ xs.Nodup
  | .obj c ns ds, v => ∃ a dx fs, v = .ref a ∧ r.out a ∧ H a = some (.ins (E.cm c) dx fs) ∧ fs.map (·.1) = ns ∧ RepL E r H ds (fs.map (·.2))
  | .loc n, v => ∃ a, r.l[n]? = some a ∧ v = .ref a
  | .scr ns, v => ∃ a, v = .ref a ∧ ScrAt E r H a (ns.map V.int)
  | .lkd _ _, _ => False
def RepL (E : En) (r : Reg) (H : Hp) : List D → List V → Prop
  | [], vs => vs = []
  | d :: ds, vs => ∃ v ws, vs = v :: ws ∧ Rep E r H d v ∧ RepL E r H ds ws
end

structure Step (r : Reg) (H : Hp) (r' : Reg) (H' : Hp) : Prop where
  ex : ∃ e, r'.l = r.l ++ e ∧ ∀ a ∈ e, H a = none
  kp : ∀ a o, H a = some o → a ∉ r.l → (∀ ps, o ≠ .tbl ps) → H' a = some o
  th : ∀ a, H a ≠ none → H' a ≠ none
  z1 : ∀ a ∈ r.z, a ∈ r'.z
  z2 : ∀ a ∈ r'.z, a ∈ r.z ∨ H a = none
  fz : ∀ a o u, H a = some (.frz o u) → H' a = some (.frz o u)
theorem Step.refl (r : Reg) (H : Hp) : Step r H r H := ⟨⟨[], by simp, fun _ h => nomatch h⟩, fun _ _ h _ _ => h, fun _ h => h, fun _ h => h, fun _ h => .inl h, fun _ _ _ h => h⟩
theorem Step.trans {r1 r2 r3 : Reg} {H1 H2 H3 : Hp} (a : Step r1 H1 r2 H2) (b : Step r2 H2 r3 H3) : Step r1 H1 r3 H3 := by
  obtain ⟨e1, q1, n1⟩ := a.ex
  obtain ⟨e2, q2, n2⟩ := b.ex
  have nn : ∀ x, H2 x = none → H1 x = none := fun x hx => Classical.byContradiction fun q => a.th x q hx
  refine ⟨⟨e1 ++ e2, by rw [q2, q1, List.append_assoc], fun x hx => ?_⟩, fun x o h hr ht => b.kp x o (a.kp x o h hr ht) (fun hx => ?_) ht, fun x h => b.th x (a.th x h), fun x h => b.z1 x (a.z1 x h), fun x h => (b.z2 x h).elim (a.z2 x) fun q => .inr (nn x q), fun x o u h => b.fz x o u (a.fz x o u h)⟩
  · rcases List.mem_append.mp hx with h | h
    · exact n1 x h
    · exact nn x (n2 x h)
  · rw [q1] at hx
    rcases List.mem_append.mp hx with h' | h'
    · exact hr h'
    · rw [n1 x h'] at h; cases h
theorem Step.get {r r' : Reg} {H H' : Hp} (s : Step r H r' H') {n : Nat} {a : Addr} (h : r.l[n]? = some a) : r'.l[n]? = some a := by
  obtain ⟨e, q, _⟩ := s.ex
  rw [q, List.getElem?_append_left (List.getElem?_eq_some_iff.mp h).1]
  exact h
/-- an object that stands and is not of the store is not of the later store either -/
theorem Step.out {r r' : Reg} {H H' : Hp} (s : Step r H r' H') {a : Addr} {o : HO} (h : H a = some o) (n : r.out a) : r'.out a := by
  obtain ⟨e, q, ne⟩ := s.ex
  refine ⟨?_, fun hz => (s.z2 a hz).elim n.2 fun q => by rw [q] at h; cases h⟩
  rw [q]
  intro hx
  rcases List.mem_append.mp hx with h' | h'
  · exact n.1 h'
  · rw [ne a h'] at h; cases h
theorem Step.rd {r r' : Reg} {H H' : Hp} (s : Step r H r' H') {a : Addr} {u : HO} (n : r.out a) (h : Rd H a u) (hu : ∀ ps, u ≠ .tbl ps) : r'.out a ∧ Rd H' a u := by
  rcases h with h | ⟨o, h⟩
  · exact ⟨s.out h n, .inl (s.kp a u h n.1 hu)⟩
  · exact ⟨s.out h n, .inr ⟨o, s.kp a _ h n.1 (fun _ q => nomatch q)⟩⟩
theorem TupAt.mono {E : En} {r r' : Reg} {H H' : Hp} {a : Addr} {vs : List V} (t : TupAt E r H a vs) (s : Step r H r' H') : TupAt E r' H' a vs :=
  t.elim (fun t => .inl (s.rd t.1 t.2 (fun _ q => nomatch q))) .inr
theorem LstAt.mono {r r' : Reg} {H H' : Hp} {a : Addr} {vs : List V} (t : LstAt r H a vs) (s : Step r H r' H') : LstAt r' H' a vs :=
  ⟨s.out t.2 t.1, s.kp a _ t.2 t.1.1 (fun _ q => nomatch q)⟩
theorem TupAt.sq {E : En} {r : Reg} {H : Hp} {a : Addr} {vs : List V} (t : TupAt E r H a vs) : SqT E.K H a vs := by
  rcases t with t | t
  · exact .inl t.2
  · rcases t with t | t
    · rcases t with t | ⟨_, t⟩ <;> cases t
    · exact .inr t
theorem ScrAt.sq {E : En} {r : Reg} {H : Hp} {a : Addr} {vs : List V} (t : ScrAt E r H a vs) : SqL E.K H a vs := by
  rcases t with t | t
  · exact .inl t.2
  · rcases t with t | t
    · rcases t with t | ⟨_, t⟩ <;> cases t
    · exact .inr t
theorem LstAt.sq {K : PySem.W.Frag} {r : Reg} {H : Hp} {a : Addr} {vs : List V} (t : LstAt r H a vs) : SqL K H a vs := .inl (.inl t.2)
mutual
theorem Rep.mono {E : En} {r r' : Reg} {H H' : Hp} (s : Step r H r' H') : ∀ {d : D} {v : V}, Rep E r H d v → Rep E r' H' d v
  | .non, _, h => by unfold Rep at h ⊢; exact h
  | .bl _, _, h => by unfold Rep at h ⊢; exact h
  | .int _, _, h => by unfold Rep at h ⊢; exact h
  | .str _, _, h => by unfold Rep at h ⊢; exact h
  | .tup ds, _, h => by
    unfold Rep at h ⊢
    obtain ⟨a, vs, e, t, l⟩ := h
    exact ⟨a, vs, e, t.mono s, RepL.mono s l⟩
  | .lst ds, _, h => by
    unfold Rep at h ⊢
    obtain ⟨a, vs, e, t, l⟩ := h
    exact ⟨a, vs, e, t.mono s, RepL.mono s l⟩
  | .dic ks ds, _, h => by
    unfold Rep at h ⊢
    obtain ⟨a, kvs, e, n, t, q, l⟩ := h
    exact ⟨a, kvs, e, s.out t n, s.kp a _ t n.1 (fun _ q => nomatch q), q, RepL.mono s l⟩
  | .set xs, _, h => by
    unfold Rep at h ⊢
    obtain ⟨a, e, n, t, q⟩ := h
    exact ⟨a, e, s.out t n, s.kp a _ t n.1 (fun _ q => nomatch q), q⟩
  | .obj c ns ds, _, h => by
    unfold Rep at h ⊢
    obtain ⟨a, dx, fs, e, n, t, q, l⟩ := h
    exact ⟨a, dx, fs, e, s.out t n, s.kp a _ t n.1 (fun _ q => nomatch q), q, RepL.mono s l⟩
  | .loc n, _, h => by
    unfold Rep at h ⊢
    obtain ⟨a, q, e⟩ := h
    exact ⟨a, s.get q, e⟩
  | .scr ns, _, h => by
    unfold Rep at h ⊢
    obtain ⟨a, e, t⟩ := h
    exact ⟨a, e, t.elim (fun t => .inl (s.rd t.1 t.2 (fun _ q => nomatch q))) .inr⟩
  | .lkd _ _, _, h => by unfold Rep at h; exact h.elim
theorem RepL.mono {E : En} {r r' : Reg} {H H' : Hp} (s : Step r H r' H') : ∀ {ds : List D} {vs : List V}, RepL E r H ds vs → RepL E r' H' ds vs
  | [], _, h => by unfold RepL at h ⊢; exact h
  | d :: ds, _, h => by
    unfold RepL at h ⊢
    obtain ⟨v, ws, e, h1, h2⟩ := h
    exact ⟨v, ws, e, Rep.mono s h1, RepL.mono s h2⟩
end
theorem repL_nil {E : En} {r : Reg} {H : Hp} {vs : List V} : RepL E r H [] vs ↔ vs = [] := by unfold RepL; exact Iff.rfl
theorem repL_cons {E : En} {r : Reg} {H : Hp} {d : D} {ds : List D} {vs : List V} : RepL E r H (d :: ds) vs ↔ ∃ v ws, vs = v :: ws ∧ Rep E r H d v ∧ RepL E r H ds ws := by
  constructor
  · intro h; unfold RepL at h; exact h
  · intro h; unfold RepL; exact h
theorem RepL.length {E : En} {r : Reg} {H : Hp} : ∀ {ds : List D} {vs : List V}, RepL E r H ds vs → ds.length = vs.length
  | [], _, h => by rw [repL_nil.mp h]; rfl
  | d :: ds, _, h => by
    obtain ⟨v, ws, e, _, h2⟩ := repL_cons.mp h
    rw [e, List.length_cons, List.length_cons, RepL.length h2]
theorem RepL.get {E : En} {r : Reg} {H : Hp} : ∀ {ds : List D} {vs : List V} {i : Nat} {d : D}, RepL E r H ds vs → ds[i]? = some d → ∃ v, vs[i]? = some v ∧ Rep E r H d v
  | [], _, _, _, _, q => by simp at q
  | d :: ds, _, 0, _, h, q => by
    obtain ⟨v, ws, rfl, h1, h2⟩ := repL_cons.mp h
    simp at q; subst q
    exact ⟨v, rfl, h1⟩
  | d :: ds, _, i + 1, _, h, q => by
    obtain ⟨v, ws, rfl, h1, h2⟩ := repL_cons.mp h
    obtain ⟨v', e, h3⟩ := RepL.get (i := i) h2 (by simpa using q)
    exact ⟨v', by simpa using e, h3⟩
theorem RepL.getv {E : En} {r : Reg} {H : Hp} : ∀ {ds : List D} {vs : List V} {i : Nat} {v : V}, RepL E r H ds vs → vs[i]? = some v → ∃ d, ds[i]? = some d ∧ Rep E r H d v
  | [], _, _, _, h, q => by rw [repL_nil.mp h] at q; simp at q
  | d :: ds, _, 0, _, h, q => by
    obtain ⟨v, ws, rfl, h1, h2⟩ := repL_cons.mp h
    simp at q; subst q
    exact ⟨d, rfl, h1⟩
  | d :: ds, _, i + 1, _, h, q => by
    obtain ⟨v, ws, rfl, h1, h2⟩ := repL_cons.mp h
    obtain ⟨v', e, h3⟩ := RepL.getv (i := i) h2 (by simpa using q)
    exact ⟨v', by simpa using e, h3⟩
theorem RepL.append {E : En} {r : Reg} {H : Hp} : ∀ {ds es : List D} {vs ws : List V}, RepL E r H ds vs → RepL E r H es ws → RepL E r H (ds ++ es) (vs ++ ws)
  | [], _, _, _, h, k => by rw [repL_nil.mp h]; exact k
  | d :: ds, _, _, _, h, k => by
    obtain ⟨v, us, rfl, h1, h2⟩ := repL_cons.mp h
    exact repL_cons.mpr ⟨v, _, rfl, h1, RepL.append h2 k⟩
theorem RepL.one {E : En} {r : Reg} {H : Hp} {d : D} {v : V} (h : Rep E r H d v) : RepL E r H [d] [v] := repL_cons.mpr ⟨v, [], rfl, h, repL_nil.mpr rfl⟩
theorem RepL.take {E : En} {r : Reg} {H : Hp} : ∀ {ds : List D} {vs : List V} (n : Nat), RepL E r H ds vs → RepL E r H (ds.take n) (vs.take n)
  | _, _, 0, _ => by simp [repL_nil]
  | [], _, n + 1, h => by rw [repL_nil.mp h]; exact repL_nil.mpr (by simp)
  | d :: ds, _, n + 1, h => by
    obtain ⟨v, us, rfl, h1, h2⟩ := repL_cons.mp h
    exact repL_cons.mpr ⟨v, us.take n, rfl, h1, RepL.take n h2⟩
theorem RepL.drop {E : En} {r : Reg} {H : Hp} : ∀ {ds : List D} {vs : List V} (n : Nat), RepL E r H ds vs → RepL E r H (ds.drop n) (vs.drop n)
  | _, _, 0, h => h
  | [], _, n + 1, h => by rw [repL_nil.mp h]; exact repL_nil.mpr (by simp)
  | d :: ds, _, n + 1, h => by
    obtain ⟨v, us, rfl, h1, h2⟩ := repL_cons.mp h
    exact RepL.drop n h2
theorem RepL.set {E : En} {r : Reg} {H : Hp} {d : D} {v : V} (hd : Rep E r H d v) : ∀ {ds : List D} {vs : List V} (n : Nat), RepL E r H ds vs → RepL E r H (ds.set n d) (vs.set n v)
  | [], _, _, h => by rw [repL_nil.mp h]; exact repL_nil.mpr (by simp)
  | e :: ds, _, 0, h => by
    obtain ⟨v', us, rfl, h1, h2⟩ := repL_cons.mp h
    exact repL_cons.mpr ⟨v, us, rfl, hd, h2⟩
  | e :: ds, _, n + 1, h => by
    obtain ⟨v', us, rfl, h1, h2⟩ := repL_cons.mp h
    exact repL_cons.mpr ⟨v', _, rfl, h1, RepL.set hd n h2⟩
theorem RepL.eraseIdx {E : En} {r : Reg} {H : Hp} : ∀ {ds : List D} {vs : List V} (n : Nat), RepL E r H ds vs → RepL E r H (ds.eraseIdx n) (vs.eraseIdx n)
  | [], _, _, h => by rw [repL_nil.mp h]; exact repL_nil.mpr (by simp)
  | e :: ds, _, 0, h => by
    obtain ⟨v', us, rfl, h1, h2⟩ := repL_cons.mp h
    exact h2
  | e :: ds, _, n + 1, h => by
    obtain ⟨v', us, rfl, h1, h2⟩ := repL_cons.mp h
    exact repL_cons.mpr ⟨v', _, rfl, h1, RepL.eraseIdx n h2⟩
theorem RepL.dropLast {E : En} {r : Reg} {H : Hp} {ds : List D} {vs : List V} (h : RepL E r H ds vs) : RepL E r H ds.dropLast vs.dropLast := by
  rw [List.dropLast_eq_take, List.dropLast_eq_take, ← h.length]
  exact h.take _
theorem RepL.reverse {E : En} {r : Reg} {H : Hp} : ∀ {ds : List D} {vs : List V}, RepL E r H ds vs → RepL E r H ds.reverse vs.reverse
  | [], _, h => by rw [repL_nil.mp h]; exact repL_nil.mpr rfl
  | d :: ds, _, h => by
    obtain ⟨v, us, rfl, h1, h2⟩ := repL_cons.mp h
    rw [List.reverse_cons, List.reverse_cons]
    exact RepL.append (RepL.reverse h2) (RepL.one h1)
/-- a list of values of one form -/
theorem RepL.map_iff {E : En} {r : Reg} {H : Hp} {α : Type} {f : α → D} {g : α → V} (hfg : ∀ a v, Rep E r H (f a) v ↔ v = g a) : ∀ {xs : List α} {vs : List V}, RepL E r H (xs.map f) vs ↔ vs = xs.map g
  | [], vs => repL_nil
  | x :: xs, vs => by
    rw [List.map_cons, repL_cons, List.map_cons]
    constructor
    · rintro ⟨v, ws, rfl, h1, h2⟩
      rw [(hfg _ _).mp h1, (RepL.map_iff hfg).mp h2]
    · rintro rfl
      exact ⟨_, _, rfl, (hfg _ _).mpr rfl, (RepL.map_iff hfg).mpr rfl⟩
section
variable {E : En} {r : Reg} {H : Hp} {v : V}
theorem rep_non : Rep E r H .non v ↔ v = .non := by unfold Rep; exact Iff.rfl
theorem rep_bl {b : Bool} : Rep E r H (.bl b) v ↔ v = .bl b := by unfold Rep; exact Iff.rfl
theorem rep_int {i : Int} : Rep E r H (.int i) v ↔ v = .int i := by unfold Rep; exact Iff.rfl
theorem rep_str {x : Str} : Rep E r H (.str x) v ↔ v = .str x := by unfold Rep; exact Iff.rfl
theorem rep_tup {ds : List D} : Rep E r H (.tup ds) v ↔ ∃ a vs, v = .ref a ∧ TupAt E r H a vs ∧ RepL E r H ds vs := by
  constructor
  · intro h; unfold Rep at h; exact h
  · intro h; unfold Rep; exact h
theorem rep_lst {ds : List D} : Rep E r H (.lst ds) v ↔ ∃ a vs, v = .ref a ∧ LstAt r H a vs ∧ RepL E r H ds vs := by
  constructor
  · intro h; unfold Rep at h; exact h
  · intro h; unfold Rep; exact h
theorem rep_dic {ks : List Key} {ds : List D} : Rep E r H (.dic ks ds) v ↔ ∃ a kvs, v = .ref a ∧ r.out a ∧ H a = some (.dK kvs) ∧ kvs.map (·.1) = ks ∧ RepL E r H ds (kvs.map (·.2)) := by
  constructor
  · intro h; unfold Rep at h; exact h
  · intro h; unfold Rep; exact h
theorem rep_set {xs : List Int} : Rep E r H (.set xs) v ↔ ∃ a, v = .ref a ∧ r.out a ∧ H a = some (SetO E.w a (fun i => decide (i ∈ xs)) xs.length) ∧ xs.Nodup := by
  constructor
  · intro h; unfold Rep at h; exact h
  · intro h; unfold Rep; exact h
theorem rep_obj {c : Nat} {ns : List Str} {ds : List D} : Rep E r H (.obj c ns ds) v ↔ ∃ a dx fs, v = .ref a ∧ r.out a ∧ H a = some (.ins (E.cm c) dx fs) ∧ fs.map (·.1) = ns ∧ RepL E r H ds (fs.map (·.2)) := by
  constructor
  · intro h; unfold Rep at h; exact h
  · intro h; unfold Rep; exact h
theorem rep_loc {n : Nat} : Rep E r H (.loc n) v ↔ ∃ a, r.l[n]? = some a ∧ v = .ref a := by
  constructor
  · intro h; unfold Rep at h; exact h
  · intro h; unfold Rep; exact h
theorem rep_lkd {ks : List Key} {ds : List D} : ¬ Rep E r H (.lkd ks ds) v := by unfold Rep; exact id
theorem rep_scr {ns : List Int} : Rep E r H (.scr ns) v ↔ ∃ a, v = .ref a ∧ ScrAt E r H a (ns.map V.int) := by
  constructor
  · intro h; unfold Rep at h; exact h
  · intro h; unfold Rep; exact h
theorem repL_ints {ns : List Int} {vs : List V} : RepL E r H (ns.map D.int) vs ↔ vs = ns.map V.int := RepL.map_iff fun _ _ => rep_int
theorem repL_strs {ns : List Str} {vs : List V} : RepL E r H (ns.map D.str) vs ↔ vs = ns.map V.str := RepL.map_iff fun _ _ => rep_str
theorem repL_bls {ns : List Bool} {vs : List V} : RepL E r H (ns.map D.bl) vs ↔ vs = ns.map V.bl := RepL.map_iff fun _ _ => rep_bl
end

/-- what stands at an address of the store -/
def Cont (E : En) (r : Reg) (H : Hp) (a : Addr) : D → Prop
  | .lst ds => ∃ vs, H a = some (.lst vs) ∧ RepL E r H ds vs
  | .dic ks ds => ∃ kvs, H a = some (.dK kvs) ∧ kvs.map (·.1) = ks ∧ RepL E r H ds (kvs.map (·.2))
  | .set xs => H a = some (SetO E.w a (fun i => decide (i ∈ xs)) xs.length) ∧ xs.Nodup
  | .obj c ns ds => ∃ dx fs, H a = some (.ins (E.cm c) dx fs) ∧ fs.map (·.1) = ns ∧ RepL E r H ds (fs.map (·.2))
  | .lkd ks ds => ∃ o kvs, H a = some (.frz o (.dK kvs)) ∧ kvs.map (·.1) = ks ∧ RepL E r H ds (kvs.map (·.2))
  | _ => False
theorem Cont.some {E : En} {r : Reg} {H : Hp} {a : Addr} : ∀ {d : D}, Cont E r H a d → ∃ o, H a = some o ∧ ∀ ps, o ≠ .tbl ps
  | .lst _, h => by obtain ⟨_, e, _⟩ := h; exact ⟨_, e, fun _ q => nomatch q⟩
  | .dic _ _, h => by obtain ⟨_, e, _⟩ := h; exact ⟨_, e, fun _ q => nomatch q⟩
  | .set _, h => ⟨_, h.1, fun _ q => nomatch q⟩
  | .obj _ _ _, h => by obtain ⟨_, _, e, _⟩ := h; exact ⟨_, e, fun _ q => nomatch q⟩
  | .non, h => h.elim
  | .bl _, h => h.elim
  | .int _, h => h.elim
  | .str _, h => h.elim
  | .tup _, h => h.elim
  | .loc _, h => h.elim
  | .scr _, h => h.elim
  | .lkd _ _, h => by obtain ⟨_, _, e, _⟩ := h; exact ⟨_, e, fun _ q => nomatch q⟩
/-- the store's place is at another heap where the object itself is the same -/
theorem Cont.mono {E : En} {r r' : Reg} {H H' : Hp} {a : Addr} (s : Step r H r' H') (e : H' a = H a) : ∀ {d : D}, Cont E r H a d → Cont E r' H' a d
  | .lst _, h => by obtain ⟨vs, q, l⟩ := h; exact ⟨vs, e.trans q, l.mono s⟩
  | .dic _ _, h => by obtain ⟨kvs, q, k, l⟩ := h; exact ⟨kvs, e.trans q, k, l.mono s⟩
  | .set _, h => ⟨e.trans h.1, h.2⟩
  | .obj _ _ _, h => by obtain ⟨dx, fs, q, k, l⟩ := h; exact ⟨dx, fs, e.trans q, k, l.mono s⟩
  | .non, h => h.elim
  | .bl _, h => h.elim
  | .int _, h => h.elim
  | .str _, h => h.elim
  | .tup _, h => h.elim
  | .loc _, h => h.elim
  | .scr _, h => h.elim
  | .lkd _ _, h => by obtain ⟨x, kvs, q, k, l⟩ := h; exact ⟨x, kvs, e.trans q, k, l.mono s⟩
structure SOk (E : En) (r : Reg) (H : Hp) (S : List D) : Prop where
  len : r.l.length = S.length
  nd : r.l.Nodup
  at_ : ∀ (n : Nat) (a : Addr) (d : D), r.l[n]? = some a → S[n]? = some d → Cont E r H a d
  tb : LamX.Tabs E.T H
  zal : ∀ a ∈ r.z, H a ≠ none ∧ ∀ ps, H a ≠ some (.tbl ps)
  zl : ∀ a ∈ r.z, a ∉ r.l
  zc : ∀ a ∈ r.z, ∀ q, H a ≠ some (LamX.CodeO a q)
theorem SOk.get {E : En} {r : Reg} {H : Hp} {S : List D} (k : SOk E r H S) {n : Nat} {d : D} (h : S[n]? = some d) : ∃ a, r.l[n]? = some a ∧ Cont E r H a d := by
  have hn : n < r.l.length := by rw [k.len]; exact (List.getElem?_eq_some_iff.mp h).1
  exact ⟨r.l[n], by simp [hn], k.at_ n _ d (by simp [hn]) h⟩
theorem SOk.cont {E : En} {r : Reg} {H : Hp} {S : List D} (k : SOk E r H S) {a : Addr} (h : a ∈ r.l) : ∃ d, Cont E r H a d := by
  obtain ⟨n, hn, e⟩ := List.getElem_of_mem h
  have hS : n < S.length := by rw [← k.len]; exact hn
  exact ⟨_, k.at_ n a S[n] (by rw [← e]; simp [hn]) (by simp [hS])⟩
theorem SOk.there {E : En} {r : Reg} {H : Hp} {S : List D} (k : SOk E r H S) {a : Addr} (h : a ∈ r.l) : ∃ o, H a = some o ∧ ∀ ps, o ≠ .tbl ps :=
  let ⟨_, c⟩ := k.cont h; c.some
theorem nodup_inj {α : Type} : ∀ {r : List α}, r.Nodup → ∀ {i j : Nat} (hi : i < r.length) (hj : j < r.length), r[i] = r[j] → i = j
  | x :: xs, h, 0, 0, _, _, _ => rfl
  | x :: xs, h, 0, j + 1, _, hj, e => by
    have := (List.nodup_cons.mp h).1
    exact absurd (by rw [List.getElem_cons_zero, List.getElem_cons_succ] at e; rw [e]; exact List.getElem_mem _) this
  | x :: xs, h, i + 1, 0, hi, _, e => by
    have := (List.nodup_cons.mp h).1
    exact absurd (by rw [List.getElem_cons_zero, List.getElem_cons_succ] at e; rw [← e]; exact List.getElem_mem _) this
  | x :: xs, h, i + 1, j + 1, hi, hj, e => by
    rw [List.getElem_cons_succ, List.getElem_cons_succ] at e
    rw [nodup_inj (List.nodup_cons.mp h).2 _ _ e]
theorem nodup_get {r : List Addr} (h : r.Nodup) {i j : Nat} {a : Addr} (e : r[i]? = some a) (e' : r[j]? = some a) : i = j := by
  obtain ⟨hi, ei⟩ := List.getElem?_eq_some_iff.mp e
  obtain ⟨hj, ej⟩ := List.getElem?_eq_some_iff.mp e'
  exact nodup_inj h hi hj (ei.trans ej.symm)
/-- a frozen object comes -/
theorem Step.new {r : Reg} {H : Hp} {p : Addr} {o : HO} (hp : H p = none) : Step r H r (upd H p o) :=
  ⟨⟨[], by simp, fun _ h => nomatch h⟩, fun a u h _ _ => by rw [upd_ne (ne_of_none h hp)]; exact h, fun a h => by
    by_cases q : a = p
    · subst q; exact absurd hp h
    · rw [upd_ne q]; exact h, fun _ h => h, fun _ h => .inl h, fun a o u h => by rw [upd_ne (ne_of_none h hp)]; exact h⟩
theorem SOk.notin {E : En} {r : Reg} {H : Hp} {S : List D} {p : Addr} (k : SOk E r H S) (hp : H p = none) : r.out p := by
  constructor
  · intro h
    obtain ⟨o, e, _⟩ := k.there h
    rw [hp] at e; cases e
  · intro h
    exact (k.zal p h).1 hp
theorem SOk.new {E : En} {r : Reg} {H : Hp} {S : List D} {p : Addr} {o : HO} (k : SOk E r H S) (hp : H p = none) : SOk E r (upd H p o) S := by
  have nz : ∀ a ∈ r.z, a ≠ p := fun a h q => (k.zal a h).1 (q ▸ hp)
  exact ⟨k.len, k.nd, fun n a d h1 h2 => (k.at_ n a d h1 h2).mono (Step.new hp) (by
    obtain ⟨u, e, _⟩ := (k.at_ n a d h1 h2).some
    exact upd_ne (ne_of_none e hp)), k.tb.ext fun b u h => by rw [upd_ne (ne_of_none h hp)]; exact h,
    fun a h => by rw [upd_ne (nz a h)]; exact k.zal a h, k.zl, fun a h => by rw [upd_ne (nz a h)]; exact k.zc a h⟩
/-- an object of the store comes -/
abbrev Reg.add (r : Reg) (p : Addr) : Reg := ⟨r.l ++ [p], r.z⟩
theorem Step.add {r : Reg} {H : Hp} {p : Addr} {o : HO} (hp : H p = none) : Step r H (r.add p) (upd H p o) :=
  ⟨⟨[p], rfl, fun a h => by rw [List.mem_singleton.mp h]; exact hp⟩, (Step.new (r := r) (o := o) hp).kp, (Step.new (r := r) (o := o) hp).th, fun _ h => h, fun _ h => .inl h, (Step.new (r := r) (o := o) hp).fz⟩
theorem SOk.add {E : En} {r : Reg} {H : Hp} {S : List D} {p : Addr} {o : HO} {d : D} (k : SOk E r H S) (hp : H p = none) (hd : Cont E (r.add p) (upd H p o) p d) : SOk E (r.add p) (upd H p o) (S ++ [d]) := by
  have k' := k.new (o := o) hp
  refine ⟨by show (r.l ++ [p]).length = _; rw [List.length_append, List.length_append, k.len]; rfl, ?_, fun n a u h1 h2 => ?_, k'.tb, k'.zal, fun a h q => ?_, k'.zc⟩
  · show (r.l ++ [p]).Nodup
    rw [List.nodup_append]
    refine ⟨k.nd, by simp, fun a ha b hb => ?_⟩
    rw [List.mem_singleton.mp hb]
    rintro rfl
    exact (k.notin hp).1 ha
  · by_cases hn : n < r.l.length
    · rw [List.getElem?_append_left hn] at h1
      rw [List.getElem?_append_left (by rw [← k.len]; exact hn)] at h2
      refine (k.at_ n a u h1 h2).mono (Step.add hp) ?_
      obtain ⟨z, e, _⟩ := (k.at_ n a u h1 h2).some
      exact upd_ne (ne_of_none e hp)
    · have e1 : n = r.l.length := by
        have := (List.getElem?_eq_some_iff.mp h1).1
        rw [List.length_append, List.length_singleton] at this
        omega
      subst e1
      rw [List.getElem?_append_right (Nat.le_refl _)] at h1
      rw [k.len, List.getElem?_append_right (Nat.le_refl _)] at h2
      simp at h1 h2
      subst h1; subst h2
      exact hd
  · rcases List.mem_append.mp q with q | q
    · exact k.zl a h q
    · rw [List.mem_singleton.mp q] at h
      exact (k.zal p h).1 hp
theorem code_ne_set {w : World} {c : Addr} {q : Str} {S : Int → Bool} {n : Nat} : LamX.CodeO c q ≠ SetO w c S n := fun e => by
  let ob : Obj := { cls := .none, data := .fields #[.none, .str q default] }
  let h : Heap := { objs := Array.replicate (c + 1) ob }
  have hg : h.get? c = Option.some ob := by
    show (match (Array.replicate (c + 1) ob)[c]? with | Option.some ⟨_, _, .freed, _⟩ => Option.none | o => o) = _
    rw [Array.getElem?_replicate, if_pos (Nat.lt_succ_self c)]
  have e1 : (fun h : Heap => ∃ (oc : Obj) (vs : Array Value) (t : Tok), h.get? c = Option.some oc ∧ oc.data = .fields vs ∧ vs[1]? = Option.some (.str q t)) = (fun h => SetR w h c S n) := HO.ext.inj e
  have h1 : ∃ (oc : Obj) (vs : Array Value) (t : Tok), h.get? c = Option.some oc ∧ oc.data = .fields vs ∧ vs[1]? = Option.some (.str q t) := ⟨ob, _, default, hg, rfl, rfl⟩
  have h2 : SetR w h c S n := (congrFun e1 h).mp h1
  obtain ⟨o, es, ep, t, ho, _, hd, _⟩ := h2
  rw [hg] at ho
  cases ho
  exact nomatch hd
/-- a store object is no code object -/
theorem Cont.ncode {E : En} {r : Reg} {H : Hp} {c : Addr} {q : Str} (hc : H c = Option.some (LamX.CodeO c q)) : ∀ {d : D}, ¬ Cont E r H c d
  | .lst _, h => by obtain ⟨_, z, _⟩ := h; rw [hc] at z; exact nomatch z
  | .dic _ _, h => by obtain ⟨_, z, _⟩ := h; rw [hc] at z; exact nomatch z
  | .set _, h => by have z := h.1; rw [hc] at z; exact code_ne_set (Option.some.inj z)
  | .obj _ _ _, h => by obtain ⟨_, _, z, _⟩ := h; rw [hc] at z; exact nomatch z
  | .non, h => h.elim
  | .bl _, h => h.elim
  | .int _, h => h.elim
  | .str _, h => h.elim
  | .tup _, h => h.elim
  | .loc _, h => h.elim
  | .scr _, h => h.elim
  | .lkd _ _, h => by obtain ⟨_, _, z, _⟩ := h; rw [hc] at z; exact nomatch z
/-- the tables stay where an object is changed that is neither a table nor a code object -/
theorem tabs_put {T : List (Addr × Str)} {H : Hp} {a : Addr} {o : HO} (t : LamX.Tabs T H) (h1 : ∀ ps, H a ≠ some (.tbl ps)) (h2 : ∀ q, H a ≠ some (LamX.CodeO a q)) : LamX.Tabs T (upd H a o) := fun p hp => by
  obtain ⟨ps, e, t, f⟩ := t p hp
  have np : p.1 ≠ a := fun q => h1 ps (q ▸ e)
  refine ⟨ps, by rw [upd_ne np]; exact e, t, fun pos cv h => ?_⟩
  obtain ⟨c, ec, hc⟩ := f pos cv h
  refine ⟨c, ec, ?_⟩
  have nc : c ≠ a := fun q => h2 p.2 (by rw [← q]; exact hc)
  rw [upd_ne nc]
  exact hc
/-- an object of the store is changed -/
theorem Step.put {r : Reg} {H : Hp} {a : Addr} {o : HO} (ha : a ∈ r.l) (hf : ∀ x u, H a ≠ some (.frz x u)) : Step r H r (upd H a o) :=
  ⟨⟨[], by simp, fun _ h => nomatch h⟩, fun b u h hb _ => by
    rw [upd_ne (fun (q : b = a) => hb (by rw [q]; exact ha))]; exact h, fun b h => by
    by_cases q : b = a
    · subst q; rw [upd_same]; exact fun z => nomatch z
    · rw [upd_ne q]; exact h, fun _ h => h, fun _ h => .inl h, fun b x u h => by rw [upd_ne (fun (q : b = a) => hf x u (q ▸ h))]; exact h⟩
theorem SOk.put {E : En} {r : Reg} {H : Hp} {S : List D} {n : Nat} {a : Addr} {o : HO} {d : D} (k : SOk E r H S) (ha : r.l[n]? = some a) (hf : ∀ x u, H a ≠ some (.frz x u)) (hd : Cont E r (upd H a o) a d) : SOk E r (upd H a o) (S.set n d) := by
  have hm : a ∈ r.l := List.mem_of_getElem? ha
  obtain ⟨d0, c0⟩ := k.cont hm
  obtain ⟨o', e', nt⟩ := c0.some
  have nz : ∀ b ∈ r.z, b ≠ a := fun b h q => k.zl b h (q ▸ hm)
  refine ⟨by rw [List.length_set]; exact k.len, k.nd, fun i b u h1 h2 => ?_, tabs_put k.tb (fun ps q => by rw [e'] at q; exact nt ps (Option.some.inj q)) (fun q h => c0.ncode h),
    fun b h => by rw [upd_ne (nz b h)]; exact k.zal b h, k.zl, fun b h => by rw [upd_ne (nz b h)]; exact k.zc b h⟩
  by_cases q : n = i
  · subst q
    have hi : n < S.length := by rw [← k.len]; exact (List.getElem?_eq_some_iff.mp h1).1
    rw [List.getElem?_set_self hi] at h2
    cases h2
    rw [ha] at h1; cases h1
    exact hd
  · rw [List.getElem?_set_ne q] at h2
    refine (k.at_ i b u h1 h2).mono (Step.put hm hf) (upd_ne ?_)
    rintro rfl
    exact q (nodup_get k.nd ha h1)

/-! ### hidden objects -/
abbrev Reg.hide (r : Reg) (a : Addr) : Reg := ⟨r.l, a :: r.z⟩
theorem Reg.out_hide {r : Reg} {a b : Addr} : (r.hide a).out b ↔ r.out b ∧ b ≠ a := by
  unfold Reg.out
  simp only [List.mem_cons, not_or]
  exact ⟨fun ⟨h1, h2, h3⟩ => ⟨⟨h1, h3⟩, h2⟩, fun ⟨⟨h1, h3⟩, h2⟩ => ⟨h1, h2, h3⟩⟩
section
variable {E : En} {r r' : Reg} {H H' : Hp}
/-- from one region and heap to another, where what is not hidden or stored is the same -/
structure Same3 (r : Reg) (H : Hp) (r' : Reg) (H' : Hp) : Prop where
  l : ∀ (n : Nat) (a : Addr), r.l[n]? = some a → r'.l[n]? = some a
  o : ∀ a o, r.out a → H a = some o → r'.out a ∧ H' a = some o
theorem Same3.rd (s : Same3 r H r' H') {a : Addr} {u : HO} (n : r.out a) (h : Rd H a u) : r'.out a ∧ Rd H' a u := by
  rcases h with h | ⟨o, h⟩
  · exact ⟨(s.o a u n h).1, .inl (s.o a u n h).2⟩
  · exact ⟨(s.o a _ n h).1, .inr ⟨o, (s.o a _ n h).2⟩⟩
mutual
theorem Rep.same (s : Same3 r H r' H') : ∀ {d : D} {v : V}, Rep E r H d v → Rep E r' H' d v
  | .non, _, h => by unfold Rep at h ⊢; exact h
  | .bl _, _, h => by unfold Rep at h ⊢; exact h
  | .int _, _, h => by unfold Rep at h ⊢; exact h
  | .str _, _, h => by unfold Rep at h ⊢; exact h
  | .tup ds, _, h => by
    unfold Rep at h ⊢
    obtain ⟨a, vs, e, t, l⟩ := h
    exact ⟨a, vs, e, t.elim (fun t => .inl (s.rd t.1 t.2)) .inr, RepL.same s l⟩
  | .lst ds, _, h => by
    unfold Rep at h ⊢
    obtain ⟨a, vs, e, t, l⟩ := h
    exact ⟨a, vs, e, s.o a _ t.1 t.2, RepL.same s l⟩
  | .dic ks ds, _, h => by
    unfold Rep at h ⊢
    obtain ⟨a, kvs, e, n, t, q, l⟩ := h
    exact ⟨a, kvs, e, (s.o a _ n t).1, (s.o a _ n t).2, q, RepL.same s l⟩
  | .set xs, _, h => by
    unfold Rep at h ⊢
    obtain ⟨a, e, n, t, q⟩ := h
    exact ⟨a, e, (s.o a _ n t).1, (s.o a _ n t).2, q⟩
  | .obj c ns ds, _, h => by
    unfold Rep at h ⊢
    obtain ⟨a, dx, fs, e, n, t, q, l⟩ := h
    exact ⟨a, dx, fs, e, (s.o a _ n t).1, (s.o a _ n t).2, q, RepL.same s l⟩
  | .loc n, _, h => by
    unfold Rep at h ⊢
    obtain ⟨a, q, e⟩ := h
    exact ⟨a, s.l _ _ q, e⟩
  | .scr ns, _, h => by
    unfold Rep at h ⊢
    obtain ⟨a, e, t⟩ := h
    exact ⟨a, e, t.elim (fun t => .inl (s.rd t.1 t.2)) .inr⟩
  | .lkd _ _, _, h => by unfold Rep at h; exact h.elim
theorem RepL.same (s : Same3 r H r' H') : ∀ {ds : List D} {vs : List V}, RepL E r H ds vs → RepL E r' H' ds vs
  | [], _, h => by unfold RepL at h ⊢; exact h
  | d :: ds, _, h => by
    unfold RepL at h ⊢
    obtain ⟨v, ws, e, h1, h2⟩ := h
    exact ⟨v, ws, e, Rep.same s h1, RepL.same s h2⟩
end
theorem Cont.same (s : Same3 r H r' H') {a : Addr} (e : H' a = H a) : ∀ {d : D}, Cont E r H a d → Cont E r' H' a d
  | .lst _, h => by obtain ⟨vs, q, l⟩ := h; exact ⟨vs, e.trans q, l.same s⟩
  | .dic _ _, h => by obtain ⟨kvs, q, k, l⟩ := h; exact ⟨kvs, e.trans q, k, l.same s⟩
  | .set _, h => ⟨e.trans h.1, h.2⟩
  | .obj _ _ _, h => by obtain ⟨dx, fs, q, k, l⟩ := h; exact ⟨dx, fs, e.trans q, k, l.same s⟩
  | .non, h => h.elim
  | .bl _, h => h.elim
  | .int _, h => h.elim
  | .str _, h => h.elim
  | .tup _, h => h.elim
  | .loc _, h => h.elim
  | .scr _, h => h.elim
  | .lkd _ _, h => by obtain ⟨x, kvs, q, k, l⟩ := h; exact ⟨x, kvs, e.trans q, k, l.same s⟩
/-- a new object that is hidden -/
theorem same_hide {p : Addr} {o : HO} (hp : H p = none) : Same3 r H (r.hide p) (upd H p o) :=
  ⟨fun _ _ h => h, fun a u n h => ⟨Reg.out_hide.mpr ⟨n, ne_of_none h hp⟩, by rw [upd_ne (ne_of_none h hp)]; exact h⟩⟩
theorem SOk.hide {S : List D} {p : Addr} {o : HO} (k : SOk E r H S) (hp : H p = none) (ht : ∀ ps, o ≠ .tbl ps) (hc : ∀ q, o ≠ LamX.CodeO p q) : SOk E (r.hide p) (upd H p o) S := by
  have k' := k.new (o := o) hp
  refine ⟨k.len, k.nd, fun n a d h1 h2 => (k.at_ n a d h1 h2).same (same_hide hp) (by
    obtain ⟨u, e, _⟩ := (k.at_ n a d h1 h2).some
    exact upd_ne (ne_of_none e hp)), k'.tb, fun a h => ?_, fun a h => ?_, fun a h => ?_⟩
  · rcases List.mem_cons.mp h with h | h
    · subst h; rw [upd_same]; exact ⟨fun q => (nomatch q), fun ps q => ht ps (Option.some.inj q)⟩
    · exact k'.zal a h
  · rcases List.mem_cons.mp h with h | h
    · subst h; exact (k.notin hp).1
    · exact k.zl a h
  · rcases List.mem_cons.mp h with h | h
    · subst h; rw [upd_same]; exact fun q e => hc q (Option.some.inj e)
    · exact k'.zc a h
/-- a hidden object is changed -/
theorem same_zput {p : Addr} {o : HO} (hz : p ∈ r.z) : Same3 r H r (upd H p o) :=
  ⟨fun _ _ h => h, fun a u n h => ⟨n, by rw [upd_ne (fun (q : a = p) => n.2 (q ▸ hz))]; exact h⟩⟩
theorem SOk.zput {S : List D} {p : Addr} {o : HO} (k : SOk E r H S) (hz : p ∈ r.z) (ht : ∀ ps, o ≠ .tbl ps) (hc : ∀ q, o ≠ LamX.CodeO p q) : SOk E r (upd H p o) S := by
  refine ⟨k.len, k.nd, fun n a d h1 h2 => (k.at_ n a d h1 h2).same (same_zput hz) (upd_ne fun q => k.zl p hz (q ▸ List.mem_of_getElem? h1)), tabs_put k.tb (k.zal p hz).2 (k.zc p hz), fun a h => ?_, k.zl, fun a h => ?_⟩
  · by_cases q : a = p
    · subst q; rw [upd_same]; exact ⟨fun q => (nomatch q), fun ps q => ht ps (Option.some.inj q)⟩
    · rw [upd_ne q]; exact k.zal a h
  · by_cases q : a = p
    · subst q; rw [upd_same]; exact fun z e => hc z (Option.some.inj e)
    · rw [upd_ne q]; exact k.zc a h
theorem Step.hide {p : Addr} {o : HO} (hp : H p = none) : Step r H (r.hide p) (upd H p o) :=
  ⟨⟨[], by simp, fun _ h => nomatch h⟩, (Step.new (r := r) (o := o) hp).kp, (Step.new (r := r) (o := o) hp).th, fun a h => List.mem_cons_of_mem _ h, fun a h => (List.mem_cons.mp h).elim (fun q => .inr (q ▸ hp)) .inl, (Step.new (r := r) (o := o) hp).fz⟩
/-- what was hidden is seen again -/
abbrev Reg.see (r : Reg) (p : Addr) : Reg := ⟨r.l, r.z.filter fun a => decide (a ≠ p)⟩
theorem mem_see {p a : Addr} (h : a ∈ (r.see p).z) : a ∈ r.z ∧ a ≠ p := ⟨(List.mem_filter.mp h).1, of_decide_eq_true (List.mem_filter.mp h).2⟩
theorem same_seen {p : Addr} : Same3 r H (r.see p) H := ⟨fun _ _ h => h, fun a u n h => ⟨⟨n.1, fun q => n.2 (mem_see q).1⟩, h⟩⟩
theorem SOk.seen {S : List D} {p : Addr} (k : SOk E r H S) : SOk E (r.see p) H S :=
  ⟨k.len, k.nd, fun n a d h1 h2 => (k.at_ n a d h1 h2).same same_seen rfl, k.tb, fun a h => k.zal a (mem_see h).1, fun a h => k.zl a (mem_see h).1, fun a h => k.zc a (mem_see h).1⟩
theorem Step.see {p : Addr} {r0 : Reg} {H0 : Hp} (s : Step r0 H0 r H) (hp : p ∉ r0.z) : Step r0 H0 (r.see p) H :=
  ⟨s.ex, s.kp, s.th, fun a h => List.mem_filter.mpr ⟨s.z1 a h, decide_eq_true fun q => hp (q ▸ h)⟩, fun a h => s.z2 a (mem_see h).1, s.fz⟩
end

/-! ### results -/
inductive R (α : Type) where
  | ok (a : α) (S : List D)
  | exc (c : Nat) (ns : List Str) (fs : List D) (S : List D)
  | stuck
def R.bind {α β : Type} (x : R α) (f : α → List D → R β) : R β := match x with
  | .ok a S => f a S
  | .exc c ns fs S => .exc c ns fs S
  | .stuck => .stuck
@[simp] theorem R.bind_ok {α β : Type} (a : α) (S : List D) (f : α → List D → R β) : (R.ok a S).bind f = f a S := rfl
@[simp] theorem R.bind_exc {α β : Type} (c : Nat) (ns : List Str) (fs : List D) (S : List D) (f : α → List D → R β) : (R.exc c ns fs S : R α).bind f = R.exc c ns fs S := rfl
@[simp] theorem R.bind_stuck {α β : Type} (f : α → List D → R β) : (R.stuck : R α).bind f = R.stuck := rfl

/-- an exception's own dict -/
def XAt (E : En) (r : Reg) (H : Hp) (ns : List Str) (fs : List D) (dx : Option Addr) : Prop :=
  (ns = [] ∧ fs = [] ∧ dx = none) ∨ ∃ d ps, dx = some d ∧ r.out d ∧ H d = some (.xd ps) ∧ ps.map (·.1) = ns ∧ RepL E r H fs (ps.map (·.2))
abbrev XW := Value → Option Addr → Hp → Prop
/-- what a result promises of the values that come -/
def Sat (E : En) (r : Reg) (H : Hp) (x : R D) (Q : VK) (W : XW) : Prop := match x with
  | .ok d S => ∀ v H' r', Step r H r' H' → SOk E r' H' S → Rep E r' H' d v → Q v H'
  | .exc c ns fs S => ∀ dx H' r', Step r H r' H' → SOk E r' H' S → XAt E r' H' ns fs dx → W (.ref (E.cm c)) dx H'
  | .stuck => False
def SatB (E : En) (r : Reg) (H : Hp) (x : R Bool) (Q : Bool → Hp → Prop) (W : XW) : Prop := match x with
  | .ok b S => ∀ H' r', Step r H r' H' → SOk E r' H' S → Q b H'
  | .exc c ns fs S => ∀ dx H' r', Step r H r' H' → SOk E r' H' S → XAt E r' H' ns fs dx → W (.ref (E.cm c)) dx H'
  | .stuck => False
def SatL (E : En) (r : Reg) (H : Hp) (x : R (List D)) (Q : List V → Hp → Prop) (W : XW) : Prop := match x with
  | .ok ds S => ∀ vs H' r', Step r H r' H' → SOk E r' H' S → RepL E r' H' ds vs → Q vs H'
  | .exc c ns fs S => ∀ dx H' r', Step r H r' H' → SOk E r' H' S → XAt E r' H' ns fs dx → W (.ref (E.cm c)) dx H'
  | .stuck => False
section
variable {E : En} {r r' : Reg} {H H' : Hp} {W : XW}
theorem Sat.mono {x : R D} {Q : VK} (h : Sat E r H x Q W) (s : Step r H r' H') : Sat E r' H' x Q W := by
  cases x with
  | ok d S => exact fun v H2 r2 s2 k p => h v H2 r2 (s.trans s2) k p
  | exc c ns fs S => exact fun dx H2 r2 s2 k p => h dx H2 r2 (s.trans s2) k p
  | stuck => exact h
theorem SatB.mono {x : R Bool} {Q : Bool → Hp → Prop} (h : SatB E r H x Q W) (s : Step r H r' H') : SatB E r' H' x Q W := by
  cases x with
  | ok d S => exact fun H2 r2 s2 k => h H2 r2 (s.trans s2) k
  | exc c ns fs S => exact fun dx H2 r2 s2 k p => h dx H2 r2 (s.trans s2) k p
  | stuck => exact h
theorem SatL.mono {x : R (List D)} {Q : List V → Hp → Prop} (h : SatL E r H x Q W) (s : Step r H r' H') : SatL E r' H' x Q W := by
  cases x with
  | ok d S => exact fun v H2 r2 s2 k p => h v H2 r2 (s.trans s2) k p
  | exc c ns fs S => exact fun dx H2 r2 s2 k p => h dx H2 r2 (s.trans s2) k p
  | stuck => exact h
theorem Sat.bind {x : R D} {f : D → List D → R D} {Q Q' : VK} (h : Sat E r H (x.bind f) Q W)
    (k : ∀ d S v H' r', x = .ok d S → Step r H r' H' → SOk E r' H' S → Rep E r' H' d v → Sat E r' H' (f d S) Q W → Q' v H') : Sat E r H x Q' W := by
  cases x with
  | ok d S => exact fun v H2 r2 s2 o p => k d S v H2 r2 rfl s2 o p (Sat.mono h s2)
  | exc c ns fs S => exact h
  | stuck => exact h
end
/-- the slots -/
abbrev DS := List (Option D)
structure SRep (E : En) (r : Reg) (H : Hp) (ds : DS) (σ : L2.St) : Prop where
  len : ds.length = σ.length
  at_ : ∀ (i : Nat) (d : D), ds[i]? = some (some d) → ∃ v, σ[i]? = some (some v) ∧ Rep E r H d v
theorem SRep.mono {E : En} {r r' : Reg} {H H' : Hp} {ds : DS} {σ : L2.St} (h : SRep E r H ds σ) (s : Step r H r' H') : SRep E r' H' ds σ :=
  ⟨h.len, fun i d e => let ⟨v, e', p⟩ := h.at_ i d e; ⟨v, e', p.mono s⟩⟩
theorem SRep.set {E : En} {r : Reg} {H : Hp} {ds : DS} {σ : L2.St} (h : SRep E r H ds σ) {d : D} {v : V} (i : Nat) (p : Rep E r H d v) : SRep E r H (ds.set i (some d)) (σ.set i (some v)) := by
  refine ⟨by rw [List.length_set, List.length_set]; exact h.len, fun j u e => ?_⟩
  by_cases q : i = j
  · subst q
    have hi : i < ds.length := by
      have := (List.getElem?_eq_some_iff.mp e).1
      rwa [List.length_set] at this
    rw [List.getElem?_set_self hi] at e
    cases e
    exact ⟨v, List.getElem?_set_self (by rw [← h.len]; exact hi), p⟩
  · rw [List.getElem?_set_ne q] at e ⊢
    exact h.at_ j u e
theorem SRep.forget {E : En} {r : Reg} {H : Hp} {ds : DS} {σ : L2.St} (h : SRep E r H ds σ) (i : Nat) : SRep E r H (ds.set i none) (σ.set i none) := by
  refine ⟨by rw [List.length_set, List.length_set]; exact h.len, fun j u e => ?_⟩
  by_cases q : i = j
  · subst q
    have hi : i < ds.length := by
      have := (List.getElem?_eq_some_iff.mp e).1
      rwa [List.length_set] at this
    rw [List.getElem?_set_self hi] at e
    cases e
  · rw [List.getElem?_set_ne q] at e ⊢
    exact h.at_ j u e
def wipeD (ds : DS) : List Nat → DS
  | [] => ds
  | v :: vs => (wipeD ds vs).set v none
theorem SRep.same {E : En} {r r' : Reg} {H H' : Hp} {ds : DS} {σ : L2.St} (h : SRep E r H ds σ) (s : Same3 r H r' H') : SRep E r' H' ds σ :=
  ⟨h.len, fun i d e => let ⟨v, e', p⟩ := h.at_ i d e; ⟨v, e', p.same s⟩⟩
theorem SRep.wipe {E : En} {r : Reg} {H : Hp} {ds : DS} {σ : L2.St} (h : SRep E r H ds σ) : ∀ vs : List Nat, SRep E r H (wipeD ds vs) (wipe σ vs)
  | [] => h
  | v :: vs => (h.wipe vs).forget v
end Dl

set_option Elab.async false
set_option linter.all false
set_option maxRecDepth 100000
set_option maxHeartbeats 4000000
/-! Dl2: expressions, tests, argument lists: judgements and their general rules. -/
namespace Dl
open PySem PySem.Spec PyProof.Rows L2

abbrev FE := DS → List D → R D
abbrev FT := DS → List D → R Bool
abbrev FA := DS → List D → R (List D)
def tD (E : En) (W : WX) (f : FE) : TE := fun σ H Q => ∃ r ds S, SRep E r H ds σ ∧ SOk E r H S ∧ Sat E r H (f ds S) Q (fun c dx H' => W c dx σ H')
def tDT (E : En) (W : WX) (f : FT) : TT := fun σ H Q => ∃ r ds S, SRep E r H ds σ ∧ SOk E r H S ∧ SatB E r H (f ds S) Q (fun c dx H' => W c dx σ H')
def tDA (E : En) (W : WX) (f : FA) : TA := fun σ H Q => ∃ r ds S, SRep E r H ds σ ∧ SOk E r H S ∧ SatL E r H (f ds S) Q (fun c dx H' => W c dx σ H')
abbrev DE (E : En) (X : Cx) (W : WX) (e : Expr) (f : FE) : Prop := PE X e (tD E W f)
abbrev DT (E : En) (X : Cx) (W : WX) (e : Expr) (f : FT) : Prop := PT X e (tDT E W f)
abbrev DW (E : En) (X : Cx) (W : WX) (e : Expr) (f : FT) : Prop := PW X e (tDT E W f)
abbrev DA (E : En) (X : Cx) (W : WX) (es : List Expr) (f : FA) : Prop := PA X es (tDA E W f)

theorem _root_.L2.PE.imp {X : Cx} {e : Expr} {t t' : TE} (h : PE X e t) (k : ∀ σ H Q, t' σ H Q → t σ H Q) : PE X e t' := ⟨fun pins s σ H Q I q => h.run pins s σ H Q I (k σ H Q q)⟩
theorem _root_.L2.PT.imp {X : Cx} {e : Expr} {t t' : TT} (h : PT X e t) (k : ∀ σ H Q, t' σ H Q → t σ H Q) : PT X e t' := ⟨fun pins s σ H Q I q => h.run pins s σ H Q I (k σ H Q q)⟩
theorem _root_.L2.PW.imp {X : Cx} {e : Expr} {t t' : TT} (h : PW X e t) (k : ∀ σ H Q, t' σ H Q → t σ H Q) : PW X e t' := ⟨fun wh pins s σ H Q I q => h.run wh pins s σ H Q I (k σ H Q q)⟩
theorem _root_.L2.PA.imp {X : Cx} {es : List Expr} {t t' : TA} (h : PA X es t) (k : ∀ σ H Q, t' σ H Q → t σ H Q) : PA X es t' := ⟨fun pos pins s σ H Q I q => h.run pos pins s σ H Q I (k σ H Q q)⟩
theorem _root_.L2.PS.imp {X : Cx} {st : Stmt} {t t' : TS} (h : PS X st t) (k : ∀ Dn σ H, t' Dn σ H → t Dn σ H) : PS X st t' := ⟨fun pins s σ H Dn I q => h.run pins s σ H Dn I (k Dn σ H q)⟩
theorem _root_.L2.PSs.imp {X : Cx} {st : List Stmt} {t t' : TS} (h : PSs X st t) (k : ∀ Dn σ H, t' Dn σ H → t Dn σ H) : PSs X st t' := ⟨fun pins s σ H Dn I q => h.run pins s σ H Dn I (k Dn σ H q)⟩

section
variable {E : En} {X : Cx} {W : WX} {σ : L2.St} {H : Hp}
/-- one step of an evaluation: f, then k at what it gave -/
theorem tD_step {f : FE} {k : DS → D → List D → R D} {Q Q' : VK} (h : tD E W (fun ds S => (f ds S).bind (k ds)) σ H Q)
    (hk : ∀ r ds S d v H1, SRep E r H1 ds σ → SOk E r H1 S → Rep E r H1 d v → Sat E r H1 (k ds d S) Q (fun c dx H' => W c dx σ H') → Q' v H1) : tD E W f σ H Q' := by
  obtain ⟨r, ds, S, p, o, s⟩ := h
  dsimp only at s
  refine ⟨r, ds, S, p, o, ?_⟩
  cases hf : f ds S with
  | ok d S1 =>
    rw [hf] at s
    exact fun v H1 r1 st k1 rp => hk r1 ds S1 d v H1 (p.mono st) k1 rp (Sat.mono s st)
  | exc c ns fs S1 => rw [hf] at s; exact s
  | stuck => rw [hf] at s; exact s
theorem tDA_step {f : FA} {k : DS → List D → List D → R D} {Q : VK} {Q' : List V → Hp → Prop} (h : tD E W (fun ds S => (f ds S).bind (k ds)) σ H Q)
    (hk : ∀ r ds S ls vs H1, SRep E r H1 ds σ → SOk E r H1 S → RepL E r H1 ls vs → Sat E r H1 (k ds ls S) Q (fun c dx H' => W c dx σ H') → Q' vs H1) : tDA E W f σ H Q' := by
  obtain ⟨r, ds, S, p, o, s⟩ := h
  dsimp only at s
  refine ⟨r, ds, S, p, o, ?_⟩
  cases hf : f ds S with
  | ok d S1 =>
    rw [hf] at s
    exact fun v H1 r1 st k1 rp => hk r1 ds S1 d v H1 (p.mono st) k1 rp (Sat.mono s st)
  | exc c ns fs S1 => rw [hf] at s; exact s
  | stuck => rw [hf] at s; exact s
theorem tDT_step {f : FT} {k : DS → Bool → List D → R D} {Q : VK} {Q' : Bool → Hp → Prop} (h : tD E W (fun ds S => (f ds S).bind (k ds)) σ H Q)
    (hk : ∀ r ds S b H1, SRep E r H1 ds σ → SOk E r H1 S → Sat E r H1 (k ds b S) Q (fun c dx H' => W c dx σ H') → Q' b H1) : tDT E W f σ H Q' := by
  obtain ⟨r, ds, S, p, o, s⟩ := h
  dsimp only at s
  refine ⟨r, ds, S, p, o, ?_⟩
  cases hf : f ds S with
  | ok d S1 =>
    rw [hf] at s
    exact fun H1 r1 st k1 => hk r1 ds S1 d H1 (p.mono st) k1 (Sat.mono s st)
  | exc c ns fs S1 => rw [hf] at s; exact s
  | stuck => rw [hf] at s; exact s
/-- the same towards a test -/
theorem tD_stepB {f : FE} {k : DS → D → List D → R Bool} {Q : Bool → Hp → Prop} {Q' : VK} (h : tDT E W (fun ds S => (f ds S).bind (k ds)) σ H Q)
    (hk : ∀ r ds S d v H1, SRep E r H1 ds σ → SOk E r H1 S → Rep E r H1 d v → SatB E r H1 (k ds d S) Q (fun c dx H' => W c dx σ H') → Q' v H1) : tD E W f σ H Q' := by
  obtain ⟨r, ds, S, p, o, s⟩ := h
  dsimp only at s
  refine ⟨r, ds, S, p, o, ?_⟩
  cases hf : f ds S with
  | ok d S1 =>
    rw [hf] at s
    exact fun v H1 r1 st k1 rp => hk r1 ds S1 d v H1 (p.mono st) k1 rp (SatB.mono s st)
  | exc c ns fs S1 => rw [hf] at s; exact s
  | stuck => rw [hf] at s; exact s
theorem tDT_stepB {f : FT} {k : DS → Bool → List D → R Bool} {Q Q' : Bool → Hp → Prop} (h : tDT E W (fun ds S => (f ds S).bind (k ds)) σ H Q)
    (hk : ∀ r ds S b H1, SRep E r H1 ds σ → SOk E r H1 S → SatB E r H1 (k ds b S) Q (fun c dx H' => W c dx σ H') → Q' b H1) : tDT E W f σ H Q' := by
  obtain ⟨r, ds, S, p, o, s⟩ := h
  dsimp only at s
  refine ⟨r, ds, S, p, o, ?_⟩
  cases hf : f ds S with
  | ok d S1 =>
    rw [hf] at s
    exact fun H1 r1 st k1 => hk r1 ds S1 d H1 (p.mono st) k1 (SatB.mono s st)
  | exc c ns fs S1 => rw [hf] at s; exact s
  | stuck => rw [hf] at s; exact s
/-- towards an argument list -/
theorem tD_stepA {f : FE} {k : DS → D → List D → R (List D)} {Q : List V → Hp → Prop} {Q' : VK} (h : tDA E W (fun ds S => (f ds S).bind (k ds)) σ H Q)
    (hk : ∀ r ds S d v H1, SRep E r H1 ds σ → SOk E r H1 S → Rep E r H1 d v → SatL E r H1 (k ds d S) Q (fun c dx H' => W c dx σ H') → Q' v H1) : tD E W f σ H Q' := by
  obtain ⟨r, ds, S, p, o, s⟩ := h
  dsimp only at s
  refine ⟨r, ds, S, p, o, ?_⟩
  cases hf : f ds S with
  | ok d S1 =>
    rw [hf] at s
    exact fun v H1 r1 st k1 rp => hk r1 ds S1 d v H1 (p.mono st) k1 rp (SatL.mono s st)
  | exc c ns fs S1 => rw [hf] at s; exact s
  | stuck => rw [hf] at s; exact s
theorem tDA_stepA {f : FA} {k : DS → List D → List D → R (List D)} {Q Q' : List V → Hp → Prop} (h : tDA E W (fun ds S => (f ds S).bind (k ds)) σ H Q)
    (hk : ∀ r ds S ls vs H1, SRep E r H1 ds σ → SOk E r H1 S → RepL E r H1 ls vs → SatL E r H1 (k ds ls S) Q (fun c dx H' => W c dx σ H') → Q' vs H1) : tDA E W f σ H Q' := by
  obtain ⟨r, ds, S, p, o, s⟩ := h
  dsimp only at s
  refine ⟨r, ds, S, p, o, ?_⟩
  cases hf : f ds S with
  | ok d S1 =>
    rw [hf] at s
    exact fun v H1 r1 st k1 rp => hk r1 ds S1 d v H1 (p.mono st) k1 rp (SatL.mono s st)
  | exc c ns fs S1 => rw [hf] at s; exact s
  | stuck => rw [hf] at s; exact s
/-- at once -/
theorem Sat.here {r : Reg} {d : D} {v : V} {S : List D} {Q : VK} {Wx : XW} (h : Sat E r H (.ok d S) Q Wx) (o : SOk E r H S) (p : Rep E r H d v) : Q v H := h v H r (Step.refl r H) o p
theorem SatB.here {r : Reg} {b : Bool} {S : List D} {Q : Bool → Hp → Prop} {Wx : XW} (h : SatB E r H (.ok b S) Q Wx) (o : SOk E r H S) : Q b H := h H r (Step.refl r H) o
theorem SatL.here {r : Reg} {ds : List D} {vs : List V} {S : List D} {Q : List V → Hp → Prop} {Wx : XW} (h : SatL E r H (.ok ds S) Q Wx) (o : SOk E r H S) (p : RepL E r H ds vs) : Q vs H := h vs H r (Step.refl r H) o p
end

/-! ### names, constants -/
def eVar (i : Nat) : FE := fun ds S => match ds[i]? with
  | some (some d) => .ok d S
  | _ => .stuck
def eC (d : D) : FE := fun _ S => .ok d S
section
variable {E : En} {X : Cx} {W : WX} {pos : Pos} {e : Expr}
theorem de_var0 {i : Nat} (h : PE X e (tVar i)) : DE E X W e (eVar i) := h.imp fun σ H Q ⟨r, ds, S, p, o, s⟩ => by
  unfold eVar at s
  cases hd : ds[i]? with
  | none => rw [hd] at s; exact s.elim
  | some od => cases od with
    | none => rw [hd] at s; exact s.elim
    | some d =>
      rw [hd] at s
      obtain ⟨v, e1, rp⟩ := p.at_ i d hd
      exact ⟨v, e1, s.here o rp⟩
theorem de_var {i : Nat} {x : Str} (hN : X.N[i]? = some x) (hv : Vis X.env.scope x) (hd : (x == ("__debug__" : Str)) = false := by decide) (hcd : (x == ("__classdict__" : Str)) = false := by decide) : DE E X W (.Name x pos) (eVar i) :=
  de_var0 (pe_var hN hv hd hcd)
theorem de_c {d : D} {v : V} (h : PE X e (tC v)) (hr : ∀ r H, Rep E r H d v) : DE E X W e (eC d) := h.imp fun σ H Q ⟨r, ds, S, p, o, s⟩ => s.here o (hr r H)
theorem de_int {i j} : DE E X W (.Constant (.int i) j pos) (eC (.int i)) := de_c pe_int fun _ _ => rep_int.mpr rfl
theorem de_bl {b j} : DE E X W (.Constant (.bool b) j pos) (eC (.bl b)) := de_c pe_bl fun _ _ => rep_bl.mpr rfl
theorem de_non {j} : DE E X W (.Constant .none j pos) (eC .non) := de_c pe_non fun _ _ => rep_non.mpr rfl
theorem de_str {x j} : DE E X W (.Constant (.str x) j pos) (eC (.str x)) := de_c pe_str fun _ _ => rep_str.mpr rfl
end

/-! ### operations on values -/
abbrev Op2 := D → D → List D → R D
def OpS (E : En) (r2 : R2) (op : Op2) : Prop := ∀ r H S d1 d2 v1 v2 Q W, SOk E r H S → Rep E r H d1 v1 → Rep E r H d2 v2 → Sat E r H (op d1 d2 S) Q W → r2 v1 v2 H Q
abbrev Op1 := D → List D → R D
def UnS (E : En) (r1 : V → Hp → VK → Prop) (op : Op1) : Prop := ∀ r H S d v Q W, SOk E r H S → Rep E r H d v → Sat E r H (op d S) Q W → r1 v H Q
abbrev OpN := List D → List D → R D
def CallS (E : En) (rn : List V → Hp → VK → Prop) (op : OpN) : Prop := ∀ r H S ds vs Q W, SOk E r H S → RepL E r H ds vs → Sat E r H (op ds S) Q W → rn vs H Q
/-- a built-in's method: its receiver, its arguments -/
abbrev OpM := D → List D → List D → R D
def eOp (op : Op2) (f g : FE) : FE := fun ds S => (f ds S).bind fun x S1 => (g ds S1).bind fun y S2 => op x y S2
def eUn (op : Op1) (f : FE) : FE := fun ds S => (f ds S).bind fun x S1 => op x S1
def tVal (f : FE) : FT := fun ds S => (f ds S).bind fun d S1 => match d with
  | .bl b => .ok b S1
  | _ => .stuck
section
variable {E : En} {X : Cx} {W : WX} {pos : Pos} {a b c e : Expr} {f g h : FE}
theorem tD_op {r2 : R2} {op : Op2} (hs : OpS E r2 op) (σ : L2.St) (H : Hp) (Q : VK) (q : tD E W (eOp op f g) σ H Q) : tOp r2 (tD E W f) (tD E W g) σ H Q :=
  tD_step (k := fun ds x S1 => (g ds S1).bind fun y S2 => op x y S2) q fun r ds S d v H1 p o rp s1 =>
    ⟨r, ds, S, p, o, Sat.bind s1 fun d2 S2 v2 H2 r2' _ st o2 rp2 s2 => hs r2' H2 S2 d d2 v v2 Q _ o2 (rp.mono st) rp2 s2⟩
theorem de_op {o : Operator} {r2 : R2} {op : Op2} (ho : OpR X (binaryOp o) r2) (hs : OpS E r2 op) (ha : DE E X W a f) (hb : DE E X W b g) : DE E X W (.BinOp a o b pos) (eOp op f g) :=
  (pe_op ho ha hb).imp (tD_op hs)
theorem de_un {o : UnaryOp} {r1 : V → Hp → VK → Prop} {op : Op1} (ho : UnR X (unaryOp o) r1) (hs : UnS E r1 op) (ha : DE E X W a f) : DE E X W (.UnaryOp o a pos) (eUn op f) :=
  (pe_un ho ha).imp fun σ H Q q => tD_step q fun r ds S d v H1 p o rp s1 => hs r H1 S d v Q _ o rp s1
theorem de_cmp {o : CmpOp} {r2 : R2} {op : Op2} (ho : OpR X (compareOp o) r2) (hs : OpS E r2 op) (hm : behindInMarks o b = false) (ha : DE E X W a f) (hb : DE E X W b g) : DE E X W (.Compare a [o] [b] pos) (eOp op f g) :=
  (pe_cmpR ho ha hb hm).imp (tD_op hs)
/-- a value's test -/
theorem tVal_of {t : TE} (ht : ∀ σ H Q, tD E W f σ H Q → t σ H Q) (σ : L2.St) (H : Hp) (Q : Bool → Hp → Prop) (q : tDT E W (tVal f) σ H Q) : tTest t σ H Q :=
  ht σ H _ (tD_stepB q fun r ds S d v H1 p o rp s1 => by
    cases d with
    | bl b => exact ⟨b, rep_bl.mp rp, s1.here o⟩
    | _ => exact s1.elim)
theorem dt_cmp {o : CmpOp} {r2 : R2} {op : Op2} (ho : OpR X (compareOp o) r2) (hs : OpS E r2 op) (hm : behindInMarks o b = false) (ha : DE E X W a f) (hb : DE E X W b g) : DT E X W (.Compare a [o] [b] pos) (tVal (eOp op f g)) :=
  (pt_cmpR ho ha hb hm).imp (tVal_of (tD_op hs))
theorem dt_val (ha : DE E X W a f) (he : ∀ whole, isTrue a X.env whole = (do let v ← whole; standAt a.pos; holding [v] (truthy v)) := by intro _; rfl) : DT E X W a (tVal f) :=
  (pt_val ha he).imp (tVal_of (fun _ _ _ q => q))
/-- a op1 b op2 c -/
def eChain (op op' : Op2) (f g h : FE) : FE := fun ds S => (f ds S).bind fun x S1 => (g ds S1).bind fun y S2 => (op x y S2).bind fun z S3 => match z with
  | .bl true => (h ds S3).bind fun w S4 => op' y w S4
  | .bl false => .ok (.bl false) S3
  | _ => .stuck
theorem tD_chain {r2 r2' : R2} {op op' : Op2} (hs : OpS E r2 op) (hs' : OpS E r2' op') (σ : L2.St) (H : Hp) (Q : VK) (q : tD E W (eChain op op' f g h) σ H Q) : tChain r2 r2' (tD E W f) (tD E W g) (tD E W h) σ H Q := by
  refine tD_step q fun r ds S x vx H1 p o rx s1 => ⟨r, ds, S, p, o, Sat.bind s1 fun y S2 vy H2 r2 _ st2 o2 ry s2 => ?_⟩
  refine hs r2 H2 S2 x y vx vy _ (fun c dx H' => W c dx σ H') o2 (rx.mono st2) ry (Sat.bind s2 fun z S3 vz H3 r3 _ st3 o3 rz s3 => ?_)
  have p3 := (p.mono st2).mono st3
  cases z with
  | bl k =>
    refine ⟨k, rep_bl.mp rz, ?_⟩
    cases k with
    | true =>
      rw [if_pos rfl]
      exact ⟨r3, ds, S3, p3, o3, Sat.bind s3 fun w S4 vw H4 r4 _ st4 o4 rw4 s4 => hs' r4 H4 S4 y w vy vw Q _ o4 ((ry.mono st3).mono st4) rw4 s4⟩
    | false =>
      rw [if_neg (by decide)]
      exact s3.here o3 (rep_bl.mpr rfl)
  | _ => exact s3.elim
theorem de_chain {o o' : CmpOp} {r2 r2' : R2} {op op' : Op2} (ho : OpR X (compareOp o) r2) (ho' : OpR X (compareOp o') r2') (hs : OpS E r2 op) (hs' : OpS E r2' op') (ha : DE E X W a f) (hb : DE E X W b g) (hc : DE E X W c h)
    (hm : lastMarks [o, o'] [b, c] = false := by with_unfolding_all rfl) : DE E X W (.Compare a [o, o'] [b, c] pos) (eChain op op' f g h) :=
  (pe_chain ho ho' ha hb hc hm).imp (tD_chain hs hs')
theorem dt_chain {o o' : CmpOp} {r2 r2' : R2} {op op' : Op2} (ho : OpR X (compareOp o) r2) (ho' : OpR X (compareOp o') r2') (hs : OpS E r2 op) (hs' : OpS E r2' op') (ha : DE E X W a f) (hb : DE E X W b g) (hc : DE E X W c h)
    (hm : lastMarks [o, o'] [b, c] = false := by with_unfolding_all rfl) : DT E X W (.Compare a [o, o'] [b, c] pos) (tVal (eChain op op' f g h)) :=
  (pt_chain ho ho' ha hb hc hm).imp (tVal_of (tD_chain hs hs'))
/-! ### and, or, not, if-expressions -/
def tAndD (f g : FT) : FT := fun ds S => (f ds S).bind fun b S1 => if b = true then g ds S1 else .ok false S1
def tOrD (f g : FT) : FT := fun ds S => (f ds S).bind fun b S1 => if b = true then .ok true S1 else g ds S1
def tNotD (f : FT) : FT := fun ds S => (f ds S).bind fun b S1 => .ok (!b) S1
variable {u v : FT} {rest : List Expr}
theorem dw_and1 (ha : DT E X W a u) : DW E X W (.BoolOp .And [a] pos) u := pw_and1 ha
theorem dw_or1 (ha : DT E X W a u) : DW E X W (.BoolOp .Or [a] pos) u := pw_or1 ha
theorem dw_and (ha : DT E X W a u) (hb : DW E X W (.BoolOp .And (b :: rest) pos) v) : DW E X W (.BoolOp .And (a :: b :: rest) pos) (tAndD u v) :=
  (pw_and ha hb).imp fun σ H Q q => tDT_stepB q fun r ds S k H1 p o s1 => by
    cases k with
    | true => rw [if_pos rfl]; rw [if_pos rfl] at s1; exact ⟨r, ds, S, p, o, s1⟩
    | false => rw [if_neg (by decide)]; rw [if_neg (by decide)] at s1; exact s1.here o
theorem dw_or (ha : DT E X W a u) (hb : DW E X W (.BoolOp .Or (b :: rest) pos) v) : DW E X W (.BoolOp .Or (a :: b :: rest) pos) (tOrD u v) :=
  (pw_or ha hb).imp fun σ H Q q => tDT_stepB q fun r ds S k H1 p o s1 => by
    cases k with
    | true => rw [if_pos rfl]; rw [if_pos rfl] at s1; exact s1.here o
    | false => rw [if_neg (by decide)]; rw [if_neg (by decide)] at s1; exact ⟨r, ds, S, p, o, s1⟩
theorem dt_of_w (h : DW E X W a u) : DT E X W a u := PW.pt h
theorem dt_not (ha : DT E X W a u) : DT E X W (.UnaryOp .Not a pos) (tNotD u) :=
  (pt_not ha).imp fun σ H Q q => tDT_stepB q fun r ds S k H1 p o s1 => s1.here o
def eAnd (f g : FE) : FE := fun ds S => (f ds S).bind fun d S1 => match d with
  | .bl true => g ds S1
  | .bl false => .ok (.bl false) S1
  | _ => .stuck
def eOr (f g : FE) : FE := fun ds S => (f ds S).bind fun d S1 => match d with
  | .bl true => .ok (.bl true) S1
  | .bl false => g ds S1
  | _ => .stuck
def eNot (f : FE) : FE := fun ds S => (f ds S).bind fun d S1 => match d with
  | .bl k => .ok (.bl (!k)) S1
  | _ => .stuck
theorem de_one {o} (h : DE E X W a f) : DE E X W (.BoolOp o [a] pos) f := pe_one h
theorem de_and (ha : DE E X W a f) (hb : DE E X W (.BoolOp .And (b :: rest) pos) g) : DE E X W (.BoolOp .And (a :: b :: rest) pos) (eAnd f g) :=
  (pe_and ha hb).imp fun σ H Q q => tD_step q fun r ds S d vd H1 p o rp s1 => by
    cases d with
    | bl k =>
      refine ⟨k, rep_bl.mp rp, ?_⟩
      cases k with
      | true => rw [if_pos rfl]; exact ⟨r, ds, S, p, o, s1⟩
      | false => rw [if_neg (by decide)]; exact s1.here o (rep_bl.mpr rfl)
    | _ => exact s1.elim
theorem de_or (ha : DE E X W a f) (hb : DE E X W (.BoolOp .Or (b :: rest) pos) g) : DE E X W (.BoolOp .Or (a :: b :: rest) pos) (eOr f g) :=
  (pe_or ha hb).imp fun σ H Q q => tD_step q fun r ds S d vd H1 p o rp s1 => by
    cases d with
    | bl k =>
      refine ⟨k, rep_bl.mp rp, ?_⟩
      cases k with
      | true => rw [if_pos rfl]; exact s1.here o (rep_bl.mpr rfl)
      | false => rw [if_neg (by decide)]; exact ⟨r, ds, S, p, o, s1⟩
    | _ => exact s1.elim
theorem de_not (ha : DE E X W a f) : DE E X W (.UnaryOp .Not a pos) (eNot f) :=
  (pe_not ha).imp fun σ H Q q => tD_step q fun r ds S d vd H1 p o rp s1 => by
    cases d with
    | bl k => exact ⟨k, rep_bl.mp rp, s1.here o (rep_bl.mpr rfl)⟩
    | _ => exact s1.elim
def eIf (t : FT) (f g : FE) : FE := fun ds S => (t ds S).bind fun b S1 => if b = true then f ds S1 else g ds S1
theorem de_if (hc : DT E X W c u) (ha : DE E X W a f) (hb : DE E X W b g) : DE E X W (.IfExp c a b pos) (eIf u f g) :=
  (pe_ifExp hc ha hb).imp fun σ H Q q => tDT_step q fun r ds S k H1 p o s1 => by
    cases k with
    | true => rw [if_pos rfl]; rw [if_pos rfl] at s1; exact ⟨r, ds, S, p, o, s1⟩
    | false => rw [if_neg (by decide)]; rw [if_neg (by decide)] at s1; exact ⟨r, ds, S, p, o, s1⟩
end

/-! ### argument lists -/
def aNil : FA := fun _ S => .ok [] S
def aCons (f : FE) (g : FA) : FA := fun ds S => (f ds S).bind fun d S1 => (g ds S1).bind fun ls S2 => .ok (d :: ls) S2
section
variable {E : En} {X : Cx} {W : WX} {pos : Pos} {e : Expr} {es : List Expr} {f : FE} {g : FA}
theorem da_nil : DA E X W [] aNil := pa_nil.imp fun σ H Q ⟨r, ds, S, p, o, s⟩ => s.here o (repL_nil.mpr rfl)
theorem tDA_cons (σ : L2.St) (H : Hp) (Q : List V → Hp → Prop) (q : tDA E W (aCons f g) σ H Q) : tCons (tD E W f) (tDA E W g) σ H Q :=
  tD_stepA q fun r ds S d v H1 p o rp s1 => ⟨r, ds, S, p, o, by
    cases hg : g ds S with
    | ok ls S2 =>
      rw [hg] at s1
      exact fun vs H2 r2 st o2 rl => s1 (v :: vs) H2 r2 st o2 (repL_cons.mpr ⟨v, vs, rfl, rp.mono st, rl⟩)
    | exc c ns fs S2 => rw [hg] at s1; exact s1
    | stuck => rw [hg] at s1; exact s1⟩
theorem da_cons (ha : DE E X W e f) (hr : DA E X W es g) (hs : starEach (e :: es) X.env = (false, eval e X.env) :: starEach es X.env := by rfl) : DA E X W (e :: es) (aCons f g) :=
  (pa_cons ha hr hs).imp tDA_cons
/-! ### displays -/
def eTup (g : FA) : FE := fun ds S => (g ds S).bind fun ls S1 => if ls.length ≤ sizeLine then .ok (.tup ls) S1 else .stuck
/-- a list that nobody changes -/
def eLst (g : FA) : FE := fun ds S => (g ds S).bind fun ls S1 => if ls.length ≤ sizeLine then .ok (.lst ls) S1 else .stuck
/-- a list that is changed later -/
def eNew (g : FA) : FE := fun ds S => (g ds S).bind fun ls S1 => if ls.length ≤ sizeLine then .ok (.loc S1.length) (S1 ++ [.lst ls]) else .stuck
theorem new_tup {r : Reg} {H : Hp} {S : List D} {ls : List D} {vs : List V} {Q : VK} {Wx : XW} (o : SOk E r H S) (rl : RepL E r H ls vs) (h : Sat E r H (.ok (.tup ls) S) Q Wx) {p : Addr} (hp : H p = none) : Q (.ref p) (upd H p (.tup vs)) :=
  h _ _ r (Step.new hp) (o.new hp) (rep_tup.mpr ⟨p, vs, rfl, .inl ⟨o.notin hp, .inl upd_same⟩, rl.mono (Step.new hp)⟩)
theorem new_lst {r : Reg} {H : Hp} {S : List D} {ls : List D} {vs : List V} {Q : VK} {Wx : XW} (o : SOk E r H S) (rl : RepL E r H ls vs) (h : Sat E r H (.ok (.lst ls) S) Q Wx) {p : Addr} (hp : H p = none) : Q (.ref p) (upd H p (.lst vs)) :=
  h _ _ r (Step.new hp) (o.new hp) (rep_lst.mpr ⟨p, vs, rfl, ⟨o.notin hp, upd_same⟩, rl.mono (Step.new hp)⟩)
theorem new_loc {r : Reg} {H : Hp} {S : List D} {ls : List D} {vs : List V} {Q : VK} {Wx : XW} (o : SOk E r H S) (rl : RepL E r H ls vs) (h : Sat E r H (.ok (.loc S.length) (S ++ [.lst ls])) Q Wx) {p : Addr} (hp : H p = none) : Q (.ref p) (upd H p (.lst vs)) :=
  h _ _ (r.add p) (Step.add hp) (o.add hp ⟨vs, upd_same, rl.mono (Step.add hp)⟩) (rep_loc.mpr ⟨p, by show (r.l ++ [p])[S.length]? = _; rw [← o.len, List.getElem?_append_right (Nat.le_refl _)]; simp, rfl⟩)
theorem de_tup {k : Nat} (ha : DA E X W es g) : DE E X W (.Tuple es k pos) (eTup g) :=
  (pe_tup ha).imp fun σ H Q q => tDA_step q fun r ds S ls vs H1 p o rl s1 => by
    split at s1
    · exact ⟨by rw [← rl.length]; assumption, fun p hp => new_tup o rl s1 hp⟩
    · exact s1.elim
theorem de_lst (ha : DA E X W es g) : DE E X W (.List es pos) (eLst g) :=
  (pe_lst ha).imp fun σ H Q q => tDA_step q fun r ds S ls vs H1 p o rl s1 => by
    split at s1
    · exact ⟨by rw [← rl.length]; assumption, fun p hp => new_lst o rl s1 hp⟩
    · exact s1.elim
theorem de_new (ha : DA E X W es g) : DE E X W (.List es pos) (eNew g) :=
  (pe_lst ha).imp fun σ H Q q => tDA_step q fun r ds S ls vs H1 p o rl s1 => by
    split at s1
    · exact ⟨by rw [← rl.length]; assumption, fun p hp => new_loc o rl s1 hp⟩
    · exact s1.elim
/-! ### built-ins by name -/
def eCall (op : OpN) (g : FA) : FE := fun ds S => (g ds S).bind fun ls S1 => op ls S1
theorem tD_call {rn : List V → Hp → VK → Prop} {op : OpN} (hs : CallS E rn op) (σ : L2.St) (H : Hp) (Q : VK) (q : tD E W (eCall op g) σ H Q) : tCB rn (tDA E W g) σ H Q :=
  tDA_step q fun r ds S ls vs H1 p o rl s1 => hs r H1 S ls vs Q _ o rl s1
theorem de_callB {x : Str} {id : String} {rn : List V → Hp → VK → Prop} {op : OpN} {p : Pos} (hc : CallR X (.builtin id) rn) (hs : CallS E rn op) (hg : Gl X x) (hm : X.mg x = none) (hv : bootBuiltins x = some (.builtin id)) (ha : DA E X W (e :: es) g)
    (hn : x ≠ "__name__" := by decide) (hdb : (x == ("__debug__" : Str)) = false := by decide)
    (he : starEach (e :: es) X.env = (false, eval e X.env) :: starEach es X.env := by rfl) (hpl : (backTo pos (starEach es X.env)).any (·.1) = false := by rfl) : DE E X W (.Call (.Name x p) (e :: es) [] pos) (eCall op g) :=
  (pe_callB hc hg hm hv ha hn hdb he hpl).imp (tD_call hs)
theorem de_callTy {x : Str} {T : String} {rn : List V → Hp → VK → Prop} {op : OpN} {p : Pos} (hc : CallR X (.type T) rn) (hs : CallS E rn op) (hg : Gl X x) (hm : X.mg x = none) (hv : bootBuiltins x = some (.type T)) (ha : DA E X W (e :: es) g)
    (hn : x ≠ "__name__" := by decide) (hdb : (x == ("__debug__" : Str)) = false := by decide)
    (he : starEach (e :: es) X.env = (false, eval e X.env) :: starEach es X.env := by rfl) (hpl : (backTo pos (starEach es X.env)).any (·.1) = false := by rfl) : DE E X W (.Call (.Name x p) (e :: es) [] pos) (eCall op g) :=
  (pe_callTy hc hg hm hv ha hn hdb he hpl).imp (tD_call hs)
end
end Dl

set_option Elab.async false
set_option linter.all false
set_option maxRecDepth 100000
set_option maxHeartbeats 4000000
/-! Dl3: statements, blocks, defs and their calls. -/
namespace Dl
open PySem PySem.Spec PyProof.Rows L2

inductive RS where
  | nx (ds : DS) (S : List D)
  | ret (d : D) (S : List D)
  | exc (c : Nat) (ns : List Str) (fs : List D) (ds : DS) (S : List D)
  | stuck
abbrev FS := DS → List D → RS
def SatS (E : En) (r : Reg) (H : Hp) (x : RS) (Dn : Ends) (W : WX) : Prop := match x with
  | .nx ds S => ∀ σ H' r', Step r H r' H' → SOk E r' H' S → SRep E r' H' ds σ → Dn.nx σ H'
  | .ret d S => ∀ v H' r', Step r H r' H' → SOk E r' H' S → Rep E r' H' d v → Dn.rt v H'
  | .exc c ns fs ds S => ∀ dx σ H' r', Step r H r' H' → SOk E r' H' S → XAt E r' H' ns fs dx → SRep E r' H' ds σ → W (.ref (E.cm c)) dx σ H'
  | .stuck => False
theorem SatS.mono {E : En} {r r' : Reg} {H H' : Hp} {x : RS} {Dn : Ends} {W : WX} (h : SatS E r H x Dn W) (s : Step r H r' H') : SatS E r' H' x Dn W := by
  cases x with
  | nx ds S => exact fun σ H2 r2 s2 k p => h σ H2 r2 (s.trans s2) k p
  | ret d S => exact fun v H2 r2 s2 k p => h v H2 r2 (s.trans s2) k p
  | exc c ns fs ds S => exact fun dx σ H2 r2 s2 k p q => h dx σ H2 r2 (s.trans s2) k p q
  | stuck => exact h
def tDS (E : En) (W : WX) (f : FS) : TS := fun Dn σ H => ∃ r ds S, SRep E r H ds σ ∧ SOk E r H S ∧ SatS E r H (f ds S) Dn W
abbrev DSt (E : En) (X : Cx) (W : WX) (st : Stmt) (f : FS) : Prop := PS X st (tDS E W f)
abbrev DSs (E : En) (X : Cx) (W : WX) (st : List Stmt) (f : FS) : Prop := PSs X st (tDS E W f)
/-- an expression, then a statement's rest -/
def R.toS {α : Type} (x : R α) (ds : DS) (k : α → List D → RS) : RS := match x with
  | .ok a S => k a S
  | .exc c ns fs S => .exc c ns fs ds S
  | .stuck => .stuck
@[simp] theorem R.toS_ok {α : Type} (a : α) (S : List D) (ds : DS) (k : α → List D → RS) : (R.ok a S).toS ds k = k a S := rfl
@[simp] theorem R.toS_exc {α : Type} (c : Nat) (ns : List Str) (fs : List D) (S : List D) (ds : DS) (k : α → List D → RS) : (R.exc c ns fs S : R α).toS ds k = .exc c ns fs ds S := rfl
@[simp] theorem R.toS_stuck {α : Type} (ds : DS) (k : α → List D → RS) : (R.stuck : R α).toS ds k = .stuck := rfl
def RS.andThen (x : RS) (g : FS) : RS := match x with
  | .nx ds S => g ds S
  | y => y
@[simp] theorem RS.andThen_nx (ds : DS) (S : List D) (g : FS) : (RS.nx ds S).andThen g = g ds S := rfl
@[simp] theorem RS.andThen_ret (d : D) (S : List D) (g : FS) : (RS.ret d S).andThen g = .ret d S := rfl
@[simp] theorem RS.andThen_exc (c : Nat) (ns : List Str) (fs : List D) (ds : DS) (S : List D) (g : FS) : (RS.exc c ns fs ds S).andThen g = .exc c ns fs ds S := rfl
@[simp] theorem RS.andThen_stuck (g : FS) : RS.stuck.andThen g = .stuck := rfl

section
variable {E : En} {X : Cx} {W : WX} {σ : L2.St} {H : Hp} {Dn : Ends}
theorem tD_stepS {f : FE} {k : DS → D → List D → RS} {Q' : VK} (h : tDS E W (fun ds S => (f ds S).toS ds (k ds)) Dn σ H)
    (hk : ∀ r ds S d v H1, SRep E r H1 ds σ → SOk E r H1 S → Rep E r H1 d v → SatS E r H1 (k ds d S) Dn W → Q' v H1) : tD E W f σ H Q' := by
  obtain ⟨r, ds, S, p, o, s⟩ := h
  dsimp only at s
  refine ⟨r, ds, S, p, o, ?_⟩
  cases hf : f ds S with
  | ok d S1 =>
    rw [hf] at s
    exact fun v H1 r1 st k1 rp => hk r1 ds S1 d v H1 (p.mono st) k1 rp (SatS.mono s st)
  | exc c ns fs S1 => rw [hf] at s; exact fun dx H' r' st o' x => s dx σ H' r' st o' x (p.mono st)
  | stuck => rw [hf] at s; exact s
theorem tDT_stepS {f : FT} {k : DS → Bool → List D → RS} {Q' : Bool → Hp → Prop} (h : tDS E W (fun ds S => (f ds S).toS ds (k ds)) Dn σ H)
    (hk : ∀ r ds S b H1, SRep E r H1 ds σ → SOk E r H1 S → SatS E r H1 (k ds b S) Dn W → Q' b H1) : tDT E W f σ H Q' := by
  obtain ⟨r, ds, S, p, o, s⟩ := h
  dsimp only at s
  refine ⟨r, ds, S, p, o, ?_⟩
  cases hf : f ds S with
  | ok d S1 =>
    rw [hf] at s
    exact fun H1 r1 st k1 => hk r1 ds S1 d H1 (p.mono st) k1 (SatS.mono s st)
  | exc c ns fs S1 => rw [hf] at s; exact fun dx H' r' st o' x => s dx σ H' r' st o' x (p.mono st)
  | stuck => rw [hf] at s; exact s
theorem tDA_stepS {f : FA} {k : DS → List D → List D → RS} {Q' : List V → Hp → Prop} (h : tDS E W (fun ds S => (f ds S).toS ds (k ds)) Dn σ H)
    (hk : ∀ r ds S ls vs H1, SRep E r H1 ds σ → SOk E r H1 S → RepL E r H1 ls vs → SatS E r H1 (k ds ls S) Dn W → Q' vs H1) : tDA E W f σ H Q' := by
  obtain ⟨r, ds, S, p, o, s⟩ := h
  dsimp only at s
  refine ⟨r, ds, S, p, o, ?_⟩
  cases hf : f ds S with
  | ok d S1 =>
    rw [hf] at s
    exact fun v H1 r1 st k1 rp => hk r1 ds S1 d v H1 (p.mono st) k1 rp (SatS.mono s st)
  | exc c ns fs S1 => rw [hf] at s; exact fun dx H' r' st o' x => s dx σ H' r' st o' x (p.mono st)
  | stuck => rw [hf] at s; exact s
theorem SatS.hereN {r : Reg} {ds : DS} {S : List D} (h : SatS E r H (.nx ds S) Dn W) (o : SOk E r H S) (p : SRep E r H ds σ) : Dn.nx σ H := h σ H r (Step.refl r H) o p
theorem SatS.hereR {r : Reg} {d : D} {v : V} {S : List D} (h : SatS E r H (.ret d S) Dn W) (o : SOk E r H S) (p : Rep E r H d v) : Dn.rt v H := h v H r (Step.refl r H) o p
end

/-! ### blocks, small statements -/
def sNil : FS := fun ds S => .nx ds S
def sSeq (f g : FS) : FS := fun ds S => (f ds S).andThen g
def sExpr (f : FE) : FS := fun ds S => (f ds S).toS ds fun _ S1 => .nx ds S1
def sRet (f : FE) : FS := fun ds S => (f ds S).toS ds fun d S1 => .ret d S1
def sRetN : FS := fun _ S => .ret .non S
def sIf (c : FT) (f g : FS) : FS := fun ds S => (c ds S).toS ds fun b S1 => if b = true then f ds S1 else g ds S1
def sSet (i : Nat) (f : FE) : FS := fun ds S => (f ds S).toS ds fun d S1 => .nx (ds.set i (some d)) S1
section
variable {E : En} {X : Cx} {W : WX} {pos : Pos} {e c : Expr} {st : Stmt} {sts a b : List Stmt} {f g : FS} {fe : FE} {ft : FT}
theorem ds_nil : DSs E X W [] sNil := pss_nil.imp fun Dn σ H ⟨r, ds, S, p, o, s⟩ => s.hereN o p
theorem ds_cons (h1 : DSt E X W st f) (h2 : DSs E X W sts g) : DSs E X W (st :: sts) (sSeq f g) :=
  (pss_cons h1 h2).imp fun Dn σ H ⟨r, ds, S, p, o, s⟩ => ⟨r, ds, S, p, o, by
    unfold sSeq at s
    cases hf : f ds S with
    | nx ds' S' => rw [hf] at s; exact fun σ' H' r' st' o' p' => ⟨r', ds', S', p', o', SatS.mono s st'⟩
    | ret d S' => rw [hf] at s; exact s
    | exc c ns fs ds' S' => rw [hf] at s; exact s
    | stuck => rw [hf] at s; exact s⟩
theorem ds_one (h1 : DSt E X W st f) : DSs E X W [st] f := pss_one h1
theorem st_pass : DSt E X W (.Pass pos) sNil := ps_pass.imp fun Dn σ H ⟨r, ds, S, p, o, s⟩ => s.hereN o p
theorem st_doc {x j pos'} : DSt E X W (.Expr (.Constant (.str x) j pos) pos') sNil := ps_doc.imp fun Dn σ H ⟨r, ds, S, p, o, s⟩ => s.hereN o p
theorem st_expr (he : DE E X W e fe) (hs : swapsWith e none pos.line X.env = pure false := by rfl) : DSt E X W (.Expr e pos) (sExpr fe) :=
  (ps_expr he hs).imp fun Dn σ H q => tD_stepS q fun r ds S d v H1 p o rp s1 => s1.hereN o p
theorem st_ret (he : DE E X W e fe) : DSt E X W (.Return (some e) pos) (sRet fe) :=
  (ps_ret he).imp fun Dn σ H q => tD_stepS q fun r ds S d v H1 p o rp s1 => s1.hereR o rp
theorem st_retN : DSt E X W (.Return none pos) sRetN := ps_retN.imp fun Dn σ H ⟨r, ds, S, p, o, s⟩ => s.hereR o (rep_non.mpr rfl)
theorem st_if (hc : DT E X W c ft) (ha : DSs E X W a f) (hb : DSs E X W b g) : DSt E X W (.If c a b pos) (sIf ft f g) :=
  (ps_if hc ha hb).imp fun Dn σ H q => tDT_stepS q fun r ds S k H1 p o s1 => by
    cases k with
    | true => rw [if_pos rfl]; rw [if_pos rfl] at s1; exact ⟨r, ds, S, p, o, s1⟩
    | false => rw [if_neg (by decide)]; rw [if_neg (by decide)] at s1; exact ⟨r, ds, S, p, o, s1⟩
theorem st_never : DSt E X W st (fun _ _ => .stuck) := ps_never.imp fun Dn σ H ⟨r, ds, S, p, o, s⟩ => s
theorem st_set {i : Nat} {x : Str} {p' : Pos} (hN : X.N.Nodup) (hi : X.N[i]? = some x) (hx : Loc X.env.scope x) (he : DE E X W e fe) (hs : swapsWith e (some (.Name x p')) pos.line X.env = pure false := by rfl)
    (hf : X.fn x = true ∨ X.env.scope.names.lookup x = some .local := by first | exact .inl rfl | exact .inr rfl | assumption) : DSt E X W (.Assign [.Name x p'] e pos) (sSet i fe) :=
  (ps_set hN hi hx he hs hf).imp fun Dn σ H q => tD_stepS q fun r ds S d v H1 p o rp s1 => s1.hereN o (p.set i rp)
end

/-! ### targets -/
abbrev GD := D → DS → List D → Option DS
def tG (E : En) (g : GD) : TG := fun v σ H Q => ∃ r d ds S, SRep E r H ds σ ∧ SOk E r H S ∧ Rep E r H d v ∧ ∃ ds', g d ds S = some ds' ∧ ∀ σ', SRep E r H ds' σ' → Q σ' H
abbrev DG (E : En) (X : Cx) (tg : Expr) (g : GD) : Prop := PG X tg (tG E g)
theorem _root_.L2.PG.imp {X : Cx} {e : Expr} {t t' : TG} (h : PG X e t) (k : ∀ v σ H Q, t' v σ H Q → t v σ H Q) : PG X e t' := ⟨fun pins s σ H v u Q I r q => h.run pins s σ H v u Q I r (k v σ H Q q)⟩
def gN (i : Nat) : GD := fun d ds _ => some (ds.set i (some d))
def gNames : List Nat → TGs
  | [] => gNil
  | i :: is => gCons (gName i) (gNames is)
def setMany : List Nat → List D → DS → DS
  | i :: is, d :: dl, ds => setMany is dl (ds.set i (some d))
  | _, _, ds => ds
def gT (is : List Nat) : GD := fun d ds _ => match d with
  | .tup dl => if dl.length = is.length then some (setMany is dl ds) else none
  | _ => none
def sAsg (fe : FE) (g : GD) : FS := fun ds S => (fe ds S).toS ds fun d S1 => match g d ds S1 with
  | some ds' => .nx ds' S1
  | none => .stuck
section
variable {E : En} {X : Cx} {W : WX} {pos : Pos} {e tg : Expr} {es : List Expr} {fe : FE} {g : GD}
theorem dg_name {i : Nat} {x : Str} (hN : X.N.Nodup) (hi : X.N[i]? = some x) (hx : Loc X.env.scope x) (hf : X.fn x = true ∨ X.env.scope.names.lookup x = some .local := by first | exact .inl rfl | exact .inr rfl | assumption) : DG E X (.Name x pos) (gN i) :=
  (pg_name hN hi hx hf).imp fun v σ H Q ⟨r, d, ds, S, p, o, rp, ds', e, k⟩ => by
    cases e
    exact k _ (p.set i rp)
theorem gNames_run {r : Reg} {H : Hp} {Q : L2.St → Hp → Prop} : ∀ {is : List Nat} {dl : List D} {vs : List V} {ds : DS} {σ : L2.St}, dl.length = is.length → RepL E r H dl vs → SRep E r H ds σ → (∀ σ', SRep E r H (setMany is dl ds) σ' → Q σ' H) → gNames is vs σ H Q
  | [], [], vs, ds, σ, _, rl, p, k => ⟨repL_nil.mp rl, k σ p⟩
  | i :: is, d :: dl, vs, ds, σ, hl, rl, p, k => by
    obtain ⟨v, ws, rfl, h1, h2⟩ := repL_cons.mp rl
    exact ⟨v, ws, rfl, gNames_run (by simpa using hl) h2 (p.set i h1) k⟩
  | [], _ :: _, _, _, _, hl, _, _, _ => by simp at hl
  | _ :: _, [], _, _, _, hl, _, _, _ => by simp at hl
theorem dg_tup {is : List Nat} {k : Nat} (hK : E.K = X.K) (hc : X.calm = true) (h : PGs X es (gNames is)) (hn : (assignEach es X.env).length = is.length := by rfl) (hst : (assignEach es X.env).findIdx? (·.1) = none := by rfl) : DG E X (.Tuple es k pos) (gT is) :=
  (pg_tup hc h hn hst).imp fun v σ H Q ⟨r, d, ds, S, p, o, rp, ds', e, kk⟩ => by
    cases d with
    | tup dl =>
      unfold gT at e
      dsimp only at e
      split at e
      · cases e
        rename_i hl
        obtain ⟨a, vs, rfl, t, rl⟩ := rep_tup.mp rp
        exact ⟨a, vs, rfl, hK ▸ t.sq, by rw [← rl.length]; exact hl, gNames_run hl rl p kk⟩
      · cases e
    | _ => cases e
theorem st_asg (he : DE E X W e fe) (hg : DG E X tg g) (hs : swapsWithSole [tg] e pos.line X.env = pure false := by rfl) (hw : swappedStores [tg] e X.env = pure none := by rfl)
    (h1 : (assignEach [tg] X.env).map (·.2) = [assign tg X.env] := by rfl) : DSt E X W (.Assign [tg] e pos) (sAsg fe g) :=
  (ps_asg he hg hs hw h1).imp fun Dn σ H q => tD_stepS q fun r ds S d v H1 p o rp s1 => by
    cases hgd : g d ds S with
    | none => rw [hgd] at s1; exact s1.elim
    | some ds' =>
      rw [hgd] at s1
      exact ⟨r, d, ds, S, p, o, rp, ds', hgd, fun σ' p' => s1.hereN o p'⟩
/-- a, b = x, y of plain names -/
def sPar (i j : Nat) (g : FA) : FS := fun ds S => (g ds S).toS ds fun ls S1 => match ls with
  | [x, y] => .nx ((ds.set i (some x)).set j (some y)) S1
  | _ => .stuck
theorem st_par {i j : Nat} {x y : Str} {a b : Expr} {fa : FA} {px py pt : Pos} {kt k2 pt2} (hc : X.calm = true) (hN : X.N.Nodup) (hi : X.N[i]? = some x) (hj : X.N[j]? = some y) (hij : i ≠ j)
    (hx : X.env.scope.names.lookup x = some .local) (hy : X.env.scope.names.lookup y = some .local) (ha : DA E X W [a, b] fa)
    (hw : swappedStores [.Tuple [.Name x px, .Name y py] kt pt] (.Tuple [a, b] k2 pt2) X.env = pure (some [x, y]))
    (hs : swapsWithSole [.Tuple [.Name x px, .Name y py] kt pt] (.Tuple [a, b] k2 pt2) pos.line X.env = pure false := by rfl) :
    DSt E X W (.Assign [.Tuple [.Name x px, .Name y py] kt pt] (.Tuple [a, b] k2 pt2) pos) (sPar i j fa) :=
  (ps_par hc hN hi hj hij hx hy ha hw hs).imp fun Dn σ H q => tDA_stepS q fun r ds S ls vs H1 p o rl s1 => by
    match ls, s1 with
    | [x, y], s1 =>
      obtain ⟨v, ws, rfl, h1, h2⟩ := repL_cons.mp rl
      obtain ⟨u, ws', rfl, h3, h4⟩ := repL_cons.mp h2
      rw [repL_nil.mp h4]
      exact ⟨v, u, rfl, s1.hereN o ((p.set i h1).set j h3)⟩
    | [], s1 => exact s1.elim
    | [_], s1 => exact s1.elim
    | _ :: _ :: _ :: _, s1 => exact s1.elim
end

/-! ### while -/
def whileD (c : FT) (b : FS) : Nat → FS
  | 0, _, _ => .stuck
  | n + 1, ds, S => (c ds S).toS ds fun k S1 => if k = true then (b ds S1).andThen (whileD c b n) else .nx ds S1
section
variable {E : En} {X : Cx} {W : WX} {pos : Pos} {c : Expr} {body : List Stmt} {ft : FT} {fb : FS}
theorem st_while {n : Nat} (hp : PassesOwn (model X.prog X.w) X.A X.env X.xe) (hc : DT E X W c ft) (hb : DSs E X W body fb) : DSt E X W (.While c body [] pos) (whileD ft fb n) :=
  (ps_while hp hc hb).imp fun Dn σ H ⟨r, ds, S, p, o, s⟩ => by
    refine ⟨fun m σ' H' => ∃ r' ds' S', SRep E r' H' ds' σ' ∧ SOk E r' H' S' ∧ SatS E r' H' (whileD ft fb m ds' S') Dn W, ⟨n, r, ds, S, p, o, s⟩, ?_⟩
    rintro m σ' H' ⟨r', ds', S', p', o', s'⟩
    cases m with
    | zero => exact s'.elim
    | succ m =>
      refine tDT_stepS (k := fun ds k S1 => if k = true then (fb ds S1).andThen (whileD ft fb m) else .nx ds S1) ⟨r', ds', S', p', o', s'⟩ fun r1 ds1 S1 k H1 p1 o1 s1 => ?_
      cases k with
      | false => rw [if_neg (by decide)]; rw [if_neg (by decide)] at s1; exact s1.hereN o1 p1
      | true =>
        rw [if_pos rfl]; rw [if_pos rfl] at s1
        refine ⟨fun σ2 H2 => ∃ r' ds' S', SRep E r' H2 ds' σ2 ∧ SOk E r' H2 S' ∧ SatS E r' H2 (whileD ft fb m ds' S') Dn W, fun σ2 H2 h => ⟨m, Nat.lt_succ_self m, h⟩, r1, ds1, S1, p1, o1, ?_⟩
        cases hf : fb ds1 S1 with
        | nx ds2 S2 => rw [hf] at s1; exact fun σ2 H2 r2 st2 o2 p2 => ⟨r2, ds2, S2, p2, o2, SatS.mono s1 st2⟩
        | ret d S2 => rw [hf] at s1; exact s1
        | exc c ns fs ds2 S2 => rw [hf] at s1; exact s1
        | stuck => rw [hf] at s1; exact s1
end

/-! ### what is walked -/
/-- a walk: how many turns, what each gives (as the store stands then), whether the walk may end -/
structure Wk where
  n : Nat
  get : Nat → List D → Option D
  fin : List D → Bool
def wkL (xs : List D) : Wk := ⟨xs.length, fun i _ => xs[i]?, fun _ => true⟩
abbrev FI := DS → List D → R Wk
/-- from (r, H) on the walk J gives what k says, whatever is done meanwhile -/
def ItOk (E : En) (J : It) (r : Reg) (H : Hp) (k : Wk) : Prop := ∀ (i : Nat) (r1 : Reg) (H1 : Hp) (S1 : List D), Step r H r1 H1 → SOk E r1 H1 S1 →
  (i = k.n → k.fin S1 = true → J.stop i H1) ∧ ∀ d, i < k.n → k.get i S1 = some d → J.go i H1 ∧ ∀ x H2, J.yld i H1 x H2 → Step r1 H1 r1 H2 ∧ SOk E r1 H2 S1 ∧ Rep E r1 H2 d x
theorem ItOk.mono {E : En} {J : It} {r r' : Reg} {H H' : Hp} {k : Wk} (h : ItOk E J r H k) (s : Step r H r' H') : ItOk E J r' H' k := fun i r1 H1 S1 s1 o => h i r1 H1 S1 (s.trans s1) o
def tDI (E : En) (W : WX) (f : FI) : TI := fun σ H R' => ∃ r ds S, SRep E r H ds σ ∧ SOk E r H S ∧ match f ds S with
  | .ok items S' => ∀ J H' r', Step r H r' H' → SOk E r' H' S' → ItOk E J r' H' items → R' J H'
  | .exc c ns fs S' => ∀ dx H' r', Step r H r' H' → SOk E r' H' S' → XAt E r' H' ns fs dx → W (.ref (E.cm c)) dx σ H'
  | .stuck => False
abbrev DI (E : En) (X : Cx) (W : WX) (tg iter : Expr) (f : FI) : Prop := PI X tg iter (tDI E W f)
theorem _root_.L2.PI.imp {X : Cx} {tg iter : Expr} {t t' : TI} (h : PI X tg iter t) (k : ∀ σ H R, t' σ H R → t σ H R) : PI X tg iter t' := ⟨fun pins s σ H R I q => h.run pins s σ H R I (k σ H R q)⟩
/-! ### for -/
def forW (g : GD) (b : FS) (k : Wk) : Nat → Nat → FS
  | 0, _, ds, S => if k.fin S = true then .nx ds S else .stuck
  | m + 1, i, ds, S => match k.get i S with
    | none => .stuck
    | some d => match g d ds S with
      | some ds' => (b ds' S).andThen (forW g b k m (i + 1))
      | none => .stuck
def forL (g : GD) (b : FS) : List D → FS
  | [], ds, S => .nx ds S
  | d :: xs, ds, S => match g d ds S with
    | some ds' => (b ds' S).andThen (forL g b xs)
    | none => .stuck
theorem forW_list {g : GD} {b : FS} {xs : List D} : ∀ (m i : Nat), i + m = xs.length → forW g b (wkL xs) m i = forL g b (xs.drop i)
  | 0, i, h => by
    rw [List.drop_eq_nil_of_le (by omega)]
    funext ds S; rfl
  | m + 1, i, h => by
    have hl : i < xs.length := by omega
    rw [List.drop_eq_getElem_cons hl]
    funext ds S
    unfold forW forL
    have e : (wkL xs).get i S = some xs[i] := by show xs[i]? = _; simp [hl]
    rw [e]
    dsimp only
    rw [forW_list m (i + 1) (by omega)]
def sFor (fi : FI) (g : GD) (b : FS) : FS := fun ds S => (fi ds S).toS ds fun k S1 => forW g b k k.n 0 ds S1
theorem sFor_list {fi : FI} {g : GD} {b : FS} {ds : DS} {S S1 : List D} {xs : List D} (h : fi ds S = .ok (wkL xs) S1) : sFor fi g b ds S = forL g b xs ds S1 := by
  unfold sFor
  rw [h]
  show forW g b (wkL xs) xs.length 0 ds S1 = _
  rw [forW_list xs.length 0 (by omega), List.drop_zero]
section
variable {E : En} {X : Cx} {W : WX} {pos : Pos} {tg iter : Expr} {body : List Stmt} {fi : FI} {g : GD} {fb : FS}
theorem st_for (hp : PassesOwn (model X.prog X.w) X.A X.env X.xe) (hc : X.calm = true) (hi : DI E X W tg iter fi) (hg : DG E X tg g) (hb : DSs E X W body fb)
    (hs : ∀ x, foldedSetIterable iter X.env x = pure x := by intro _; rfl) : DSt E X W (.For tg iter body [] pos) (sFor fi g fb) :=
  (ps_for hp hc hi hg hb hs).imp fun Dn σ H ⟨r, ds, S, p, o, s⟩ => by
    refine ⟨r, ds, S, p, o, ?_⟩
    unfold sFor at s
    cases hf : fi ds S with
    | stuck => rw [hf] at s; exact s.elim
    | exc c ns fs S1 => rw [hf] at s; exact fun dx H' r' st o' x => s dx σ H' r' st o' x (p.mono st)
    | ok k S1 =>
      rw [hf] at s
      dsimp only [R.toS_ok] at s ⊢
      intro J H1 r1 st1 o1 it
      refine ⟨fun i m σ' H' => i + m = k.n ∧ ∃ r' ds' S', Step r1 H1 r' H' ∧ SRep E r' H' ds' σ' ∧ SOk E r' H' S' ∧ SatS E r' H' (forW g fb k m i ds' S') Dn W,
        ⟨k.n, by omega, r1, ds, S1, Step.refl _ _, p.mono st1, o1, SatS.mono s st1⟩, ?_⟩
      rintro i m σ' H' ⟨hm, r', ds', S', st', p', o', s'⟩
      have q := it i r' H' S' st' o'
      cases m with
      | zero =>
        unfold forW at s'
        split at s'
        · exact .inl ⟨q.1 (by omega) (by assumption), s'.hereN o' p'⟩
        · exact s'.elim
      | succ m =>
        unfold forW at s'
        cases hget : k.get i S' with
        | none => rw [hget] at s'; exact s'.elim
        | some d =>
          rw [hget] at s'
          dsimp only at s'
          obtain ⟨hgo, hy⟩ := q.2 d (by omega) hget
          refine .inr ⟨hgo, fun σ2 H2 => ∃ r' ds' S', Step r1 H1 r' H2 ∧ SRep E r' H2 ds' σ2 ∧ SOk E r' H2 S' ∧ SatS E r' H2 (forW g fb k m (i + 1) ds' S') Dn W, fun σ2 H2 h => ⟨m, by omega, by omega, h⟩, fun x H2 hx => ?_⟩
          obtain ⟨st2, o2, rp⟩ := hy x H2 hx
          cases hgd : g d ds' S' with
          | none => rw [hgd] at s'; exact s'.elim
          | some ds2 =>
            rw [hgd] at s'
            dsimp only at s'
            refine ⟨r', d, ds', S', p'.mono st2, o2, rp, ds2, hgd, fun σ2 p2 => ⟨r', ds2, S', p2, o2, ?_⟩⟩
            have s2 := SatS.mono s' st2
            cases hb' : fb ds2 S' with
            | nx ds3 S3 => rw [hb'] at s2; exact fun σ3 H3 r3 st3 o3 p3 => ⟨r3, ds3, S3, (st'.trans st2).trans st3, p3, o3, SatS.mono s2 st3⟩
            | ret d S3 => rw [hb'] at s2; exact s2
            | exc c ns fs ds3 S3 => rw [hb'] at s2; exact s2
            | stuck => rw [hb'] at s2; exact s2
end
/-! ### sources -/
theorem it_list {E : En} {r : Reg} {H : Hp} {a : Addr} {vs : List V} {ds : List D} (t : LstAt r H a vs) (l : RepL E r H ds vs) : ItOk E (Itl E.K a) r H (wkL ds) := fun i r1 H1 S1 st o =>
  ⟨fun e _ => ⟨vs, (t.mono st).sq, by rw [e]; show vs.length ≤ ds.length; rw [l.length]; exact Nat.le_refl _⟩, fun d _ hd => by
    obtain ⟨v, hv, rp⟩ := l.get hd
    refine ⟨⟨vs, v, (t.mono st).sq, hv⟩, fun x H2 ⟨e, k⟩ => ?_⟩
    subst e
    have := k vs (t.mono st).sq
    rw [hv] at this; cases this
    exact ⟨Step.refl _ _, o, rp.mono st⟩⟩
theorem it_tup {E : En} {r : Reg} {H : Hp} {a : Addr} {vs : List V} {ds : List D} (t : TupAt E r H a vs) (l : RepL E r H ds vs) : ItOk E (Itt E.K a) r H (wkL ds) := fun i r1 H1 S1 st o =>
  ⟨fun e _ => ⟨vs, (t.mono st).sq, by rw [e]; show vs.length ≤ ds.length; rw [l.length]; exact Nat.le_refl _⟩, fun d _ hd => by
    obtain ⟨v, hv, rp⟩ := l.get hd
    refine ⟨⟨vs, v, (t.mono st).sq, hv⟩, fun x H2 ⟨e, k⟩ => ?_⟩
    subst e
    have := k vs (t.mono st).sq
    rw [hv] at this; cases this
    exact ⟨Step.refl _ _, o, rp.mono st⟩⟩
def rangeD (lo : Int) (n : Nat) : List D := (List.range n).map fun i => D.int (lo + (i : Nat))
theorem it_range {E : En} {r : Reg} {H : Hp} (lo : Int) (n : Nat) : ItOk E (Itr lo n) r H (wkL (rangeD lo n)) := fun i r1 H1 S1 st o =>
  ⟨fun e _ => by rw [e]; show n ≤ _; simp [wkL, rangeD], fun d _ hd => by
    replace hd : (rangeD lo n)[i]? = some d := hd
    unfold rangeD at hd
    rw [List.getElem?_map] at hd
    cases hi : (List.range n)[i]? with
    | none => rw [hi] at hd; cases hd
    | some j =>
      rw [hi] at hd
      obtain ⟨h1, h2⟩ := List.getElem?_eq_some_iff.mp hi
      rw [List.getElem_range] at h2
      subst h2
      cases hd
      refine ⟨show i < n by simpa using h1, fun x H2 ⟨e, k⟩ => ?_⟩
      subst e
      exact ⟨Step.refl _ _, o, rep_int.mpr k⟩⟩
def iSeqL (f : FE) : FI := fun ds S => (f ds S).bind fun d S1 => match d with
  | .lst xs => .ok (wkL xs) S1
  | _ => .stuck
def iSeqT (f : FE) : FI := fun ds S => (f ds S).bind fun d S1 => match d with
  | .tup xs => .ok (wkL xs) S1
  | _ => .stuck
/-- the bounds that a range may have -/
def rngOk (i : Int) : Bool := decide (-(2 ^ 62) ≤ i) && decide (i < 2 ^ 62)
theorem rngOk_iff {i : Int} : rngOk i = true ↔ -(2 ^ 62) ≤ i ∧ i < 2 ^ 62 := by unfold rngOk; rw [Bool.and_eq_true, decide_eq_true_eq, decide_eq_true_eq]
def rng1 : List D → Option (Int × Nat)
  | [.int j] => if rngOk j = true then some (0, j.toNat) else none
  | _ => none
def rng2 : List D → Option (Int × Nat)
  | [.int i, .int j] => if (rngOk i && rngOk j) = true then some (i, (j - i).toNat) else none
  | _ => none
theorem rng1_some {ls : List D} {q : Int × Nat} (h : rng1 ls = some q) : ∃ j, ls = [.int j] ∧ rngOk j = true ∧ q = (0, j.toNat) := by
  unfold rng1 at h
  split at h
  · split at h
    · cases h; exact ⟨_, rfl, by assumption, rfl⟩
    · cases h
  · cases h
theorem rng2_some {ls : List D} {q : Int × Nat} (h : rng2 ls = some q) : ∃ i j, ls = [.int i, .int j] ∧ (rngOk i && rngOk j) = true ∧ q = (i, (j - i).toNat) := by
  unfold rng2 at h
  split at h
  · split at h
    · cases h; exact ⟨_, _, rfl, by assumption, rfl⟩
    · cases h
  · cases h
def iRange (rn : List D → Option (Int × Nat)) (g : FA) : FI := fun ds S => (g ds S).bind fun ls S1 => match rn ls with
  | some q => .ok (wkL (rangeD q.1 q.2)) S1
  | none => .stuck
section
variable {E : En} {X : Cx} {W : WX} {pos p : Pos} {tg e a b : Expr} {f : FE} {g : FA}
theorem tDI_of {k : DS → D → List D → R Wk} {σ : L2.St} {H : Hp} {R' : It → Hp → Prop} {Q' : VK} (h : tDI E W (fun ds S => (f ds S).bind (k ds)) σ H R')
    (hk : ∀ r ds S d v H1 items S', SRep E r H1 ds σ → SOk E r H1 S → Rep E r H1 d v → k ds d S = .ok items S' → (∀ J H' r', Step r H1 r' H' → SOk E r' H' S' → ItOk E J r' H' items → R' J H') → Q' v H1)
    (hx : ∀ ds d S, (∃ items S', k ds d S = .ok items S') ∨ k ds d S = .stuck) : tD E W f σ H Q' := by
  obtain ⟨r, ds, S, p, o, s⟩ := h
  dsimp only at s
  refine ⟨r, ds, S, p, o, ?_⟩
  cases hf : f ds S with
  | ok d S1 =>
    rw [hf] at s
    dsimp only [R.bind_ok] at s
    intro v H1 r1 st o1 rp
    rcases hx ds d S1 with ⟨items, S', e⟩ | e
    · rw [e] at s
      exact hk r1 ds S1 d v H1 items S' (p.mono st) o1 rp e fun J H' r' st' o' it => s J H' r' (st.trans st') o' it
    · rw [e] at s; exact s.elim
  | exc c ns fs S1 => rw [hf] at s; exact s
  | stuck => rw [hf] at s; exact s
theorem di_list (h : DE E X W e f) (hK : E.K = X.K) : DI E X W tg e (iSeqL f) :=
  (pi_list h).imp fun σ H R' q => tDI_of q (fun r ds S d v H1 items S' p o rp e k => by
    cases d with
    | lst xs =>
      cases e
      obtain ⟨a, vs, rfl, t, l⟩ := rep_lst.mp rp
      rw [← hK]
      exact ⟨a, rfl, ⟨vs, t.sq⟩, k _ H1 r (Step.refl _ _) o (it_list t l)⟩
    | _ => cases e) fun ds d S => by cases d <;> first | exact .inl ⟨_, _, rfl⟩ | exact .inr rfl
theorem di_tup (h : DE E X W e f) (hK : E.K = X.K) : DI E X W tg e (iSeqT f) :=
  (pi_tup h).imp fun σ H R' q => tDI_of q (fun r ds S d v H1 items S' p o rp e k => by
    cases d with
    | tup xs =>
      cases e
      obtain ⟨a, vs, rfl, t, l⟩ := rep_tup.mp rp
      rw [← hK]
      exact ⟨a, rfl, ⟨vs, t.sq⟩, k _ H1 r (Step.refl _ _) o (it_tup t l)⟩
    | _ => cases e) fun ds d S => by cases d <;> first | exact .inl ⟨_, _, rfl⟩ | exact .inr rfl
theorem di_range1 (hg : Gl X "range") (hm : X.mg "range" = none) (ha : DA E X W [a] g) (hs : starEach [a] X.env = [(false, eval a X.env)] := by rfl) : DI E X W tg (.Call (.Name "range" p) [a] [] pos) (iRange rng1 g) :=
  (pi_range1 hg hm ha hs).imp fun σ H R' ⟨r, ds, S, pp, o, s⟩ => ⟨r, ds, S, pp, o, by
    unfold iRange at s
    cases hf : g ds S with
    | ok ls S1 =>
      rw [hf] at s
      dsimp only [R.bind_ok] at s
      intro vs H1 r1 st o1 rl
      cases hr : rng1 ls with
      | none => rw [hr] at s; exact s.elim
      | some q =>
        rw [hr] at s
        obtain ⟨j, rfl, hj, rfl⟩ := rng1_some hr
        obtain ⟨v, ws, rfl, h1, h2⟩ := repL_cons.mp rl
        rw [repL_nil.mp h2, rep_int.mp h1]
        obtain ⟨b1, b2⟩ := rngOk_iff.mp hj
        exact ⟨j, rfl, b1, b2, s _ H1 r1 st o1 (it_range 0 j.toNat)⟩
    | exc c ns fs S1 => rw [hf] at s; exact s
    | stuck => rw [hf] at s; exact s⟩
theorem di_range2 (hg : Gl X "range") (hm : X.mg "range" = none) (ha : DA E X W [a, b] g) (hs : starEach [a, b] X.env = [(false, eval a X.env), (false, eval b X.env)] := by rfl) (hs2 : starEach [b] X.env = [(false, eval b X.env)] := by rfl) :
    DI E X W tg (.Call (.Name "range" p) [a, b] [] pos) (iRange rng2 g) :=
  (pi_range2 hg hm ha hs hs2).imp fun σ H R' ⟨r, ds, S, pp, o, s⟩ => ⟨r, ds, S, pp, o, by
    unfold iRange at s
    cases hf : g ds S with
    | ok ls S1 =>
      rw [hf] at s
      dsimp only [R.bind_ok] at s
      intro vs H1 r1 st o1 rl
      cases hr : rng2 ls with
      | none => rw [hr] at s; exact s.elim
      | some q =>
        rw [hr] at s
        obtain ⟨i, j, rfl, hj, rfl⟩ := rng2_some hr
        obtain ⟨v, ws, rfl, h1, h2⟩ := repL_cons.mp rl
        obtain ⟨v', ws', rfl, h3, h4⟩ := repL_cons.mp h2
        rw [repL_nil.mp h4, rep_int.mp h1, rep_int.mp h3]
        obtain ⟨q1, q2⟩ := Bool.and_eq_true_iff.mp hj
        obtain ⟨b1, b2⟩ := rngOk_iff.mp q1
        obtain ⟨b3, b4⟩ := rngOk_iff.mp q2
        exact ⟨i, j, rfl, ⟨b1, b2, b3, b4⟩, s _ H1 r1 st o1 (it_range i (j - i).toNat)⟩
    | exc c ns fs S1 => rw [hf] at s; exact s
    | stuck => rw [hf] at s; exact s⟩
end
end Dl

set_option Elab.async false
set_option linter.all false
set_option maxRecDepth 100000
set_option maxHeartbeats 4000000
/-! Dl4: defs, their calls, list comprehensions. -/
namespace Dl
open PySem PySem.Spec PyProof.Rows L2

/-- a def's promise, where nobody is within a repr (the guards are none) -/
structure FnG (P : Program) (w : World) (K : PySem.W.Frag) (mg : Str → Option Value) (base : Heap) (k : Nat) (f : Addr) (fd : FuncData) (ps : List Str) (sp : Sp) : Prop where
  len : ∀ vs H Q Ex, sp vs H Q Ex → vs.length = ps.length
  run : ∀ (A : Around) (outer : List Env) (s : Shared) (H : Hp) (args : Args) (us : List Value) (vs : List V) (Q : VK) (Ex : XK), Room k A → A.guards = some [] → Env0 P w K mg base A outer s H → BindsTo s fd args (ps.zip us) → Vals vs us →
    sp vs H Q Ex → codeAny (model P w) A (.call (.ref f) args) (CR (L2.CX P w) outer P w H s Q Ex) s
section
variable {P : Program} {w : World} {K : PySem.W.Frag} {mg : Str → Option Value} {base : Heap} {f : Addr} {fd : FuncData} {N ps : List Str} {sp sp' : Sp}
theorem FnG.mono {j k : Nat} (F : FnG P w K mg base j f fd ps sp) (h : j ≤ k) : FnG P w K mg base k f fd ps sp :=
  ⟨F.len, fun A outer s H args us vs Q Ex hr => F.run A outer s H args us vs Q Ex (hr.mono h)⟩
theorem FnG.imp {k : Nat} (F : FnG P w K mg base k f fd ps sp) (h : ∀ vs H Q Ex, sp' vs H Q Ex → sp vs H Q Ex) : FnG P w K mg base k f fd ps sp' :=
  ⟨fun vs H Q Ex q => F.len vs H Q Ex (h _ _ _ _ q), fun A outer s H args us vs Q Ex hr hg e0 hb r q => F.run A outer s H args us vs Q Ex hr hg e0 hb r (h _ _ _ _ q)⟩
/-- a def by its body -/
theorem fng_of {k : Nat} {x qual : Str} {params : Arguments} {body : List Stmt} {scope : Scope} {dvs : List V} {kws : List (Str × V)} (F : FunD K x qual params body scope dvs kws f fd) (Sc : FnScope N ps scope)
    (hlen : ∀ vs H Q Ex, sp vs H Q Ex → vs.length = ps.length)
    (hb : ∀ (cdv : Value) (A : Around) (outer : List Env) (s : Shared) (H : Hp) (vs : List V) (Q : VK) (Ex : XK), Room k (A.deeper (envOfC qual scope s.heap.objs.size f cdv)) → A.guards = some [] → sp vs H Q Ex →
      ∃ t, PSs (cxOf (L2.CX P w) P w K mg base N qual scope f cdv A outer s H Ex) body t ∧ t { nx := fun _ H' => Q .non H', rt := Q } (L2.start N vs) H) : FnG P w K mg base (k + 1) f fd ps sp := by
  obtain ⟨oc, od, dV, kV, doc, pm, an, cdv, ct, osl, efd, lk, hcd, _, _⟩ := F.ex
  subst efd
  constructor
  · exact hlen
  · intro A outer s H args us vs Q Ex hr hg e0 hbd r hsp
    have stays : ∀ b o, base.get? b = some o → s.heap.get? b = some o := fun b o q => (e0.bs b o q).1
    have KX : K.In s.heap := e0.mod.kin.keeps stays
    have kinds : ∀ y ∈ ps.zip us, scope.names.lookup y.1 = some .local ∨ (scope.names.lookup y.1 = some .cell ∧ ((cellsFrom (s.heap.objs.size + 1) scope.names []).lookup y.1).isSome = true) := by
      rintro ⟨n, v⟩ hy
      cases Sc.par n (List.of_mem_zip hy).1 with
      | inl q => exact Or.inl q
      | inr q => exact Or.inr ⟨q, PySem.W.cellsFrom_some _ _ _ (Or.inl q)⟩
    apply codeAny_call_function hr.depth (KX _ _ lk) rfl Sc.co Sc.gen rfl (PySem.W.codeRec_of KX hcd)
    apply hbd
    apply wpAny_newFunctionEnv_cells Sc.kind kinds
    rintro env rfl s1 x
    obtain ⟨t, ht, hq⟩ := hb cdv A outer s H vs Q Ex (hr.deeper _) hg hsp
    have I := inv_start (CX := L2.CX P w) (mg := mg) (E := Ex) Sc hr.hd e0 (hlen _ _ _ _ hsp) r x
    refine ⟨(e0.mod.nolimit.keeps stays).keeps x.toInCall.keep, codeAny_func (wpAny_mono (ht.run [] s1 (L2.start N vs) H _ I hq) ?_ fun _ _ z => z)⟩
    intro fl s' hs
    cases fl with
    | ret u => obtain ⟨v, σ', H', J, rv, q⟩ := hs; exact ⟨v, H', J.os, J.bare, J.base, J.hok, rv, q⟩
    | next => obtain ⟨σ', H', J, q⟩ := hs; exact ⟨V.non, H', J.os, J.bare, J.base, J.hok, rfl, q⟩
    | brk => obtain ⟨_, _, _, q⟩ := hs; exact q.elim
    | cont => obtain ⟨_, _, _, q⟩ := hs; exact q.elim
end

/-! ### a def as a function on data -/
abbrev FD := List D → List D → R D
/-- what a def promises: it does what F does -/
def spD (E : En) (n : Nat) (F : FD) : Sp := fun vs H Q Ex => ∃ r args S, args.length = n ∧ RepL E r H args vs ∧ SOk E r H S ∧ Sat E r H (F args S) Q Ex
/-- a body run as a function -/
def runD (m : Nat) (b : FS) : FD := fun args S => match b (args.map some ++ List.replicate m none) S with
  | .nx _ S' => .ok .non S'
  | .ret d S' => .ok d S'
  | .exc c ns fs _ S' => .exc c ns fs S'
  | .stuck => .stuck
theorem srep_start {E : En} {r : Reg} {H : Hp} {N : List Str} {args : List D} {vs : List V} (l : RepL E r H args vs) : SRep E r H (args.map some ++ List.replicate (N.length - args.length) none) (L2.start N vs) := by
  have hl := l.length
  refine ⟨by simp [L2.start, hl], fun i d e => ?_⟩
  by_cases hi : i < args.length
  · rw [List.getElem?_append_left (by simpa using hi), List.getElem?_map] at e
    cases ha : args[i]? with
    | none => rw [ha] at e; cases e
    | some d' =>
      rw [ha] at e; cases e
      obtain ⟨v, hv, rp⟩ := l.get ha
      refine ⟨v, ?_, rp⟩
      unfold L2.start
      rw [List.getElem?_append_left (by simp; omega), List.getElem?_map, hv]
      rfl
  · rw [List.getElem?_append_right (by simpa using Nat.le_of_not_lt hi)] at e
    have := List.mem_of_getElem? e
    cases List.eq_of_mem_replicate this
section
variable {P : Program} {w : World} {K : PySem.W.Frag} {mg : Str → Option Value} {base : Heap} {f : Addr} {fd : FuncData} {N ps : List Str} {E : En}
/-- THE RULE: a def whose body does b does what runD b does -/
theorem fnD_of {k m : Nat} {x qual : Str} {params : Arguments} {body : List Stmt} {scope : Scope} {dvs : List V} {kws : List (Str × V)} {b : FS} (F : FunD K x qual params body scope dvs kws f fd) (Sc : FnScope N ps scope) (hm : N.length - ps.length = m)
    (hb : ∀ (cdv : Value) (A : Around) (outer : List Env) (s : Shared) (H : Hp) (Ex : XK) (W : WX) (X : Cx), X = cxOf (L2.CX P w) P w K mg base N qual scope f cdv A outer s H Ex → Room k X.A → X.A.guards = some [] → Takes X W → PassesOwn (model X.prog X.w) X.A X.env X.xe → DSs E X W body b) :
    FnG P w K mg base (k + 1) f fd ps (spD E ps.length (runD m b)) := by
  refine fng_of F Sc (fun vs H Q Ex ⟨r, args, S, h1, h2, _⟩ => by rw [← h2.length]; exact h1) fun cdv A outer s H vs Q Ex hr hg ⟨r, args, S, h1, l, o, sat⟩ => ?_
  refine ⟨_, hb cdv A outer s H Ex (fun cls d _ H => Ex cls d H) _ rfl hr hg (takes_of rfl rfl rfl rfl) (passes_of rfl), r, args.map some ++ List.replicate m none, S, ?_, o, ?_⟩
  · have := srep_start (N := N) l
    rw [h1, hm] at this
    exact this
  · unfold runD at sat
    cases hb' : b (args.map some ++ List.replicate m none) S with
    | nx ds' S' => rw [hb'] at sat; exact fun σ H' r' st o' p => sat .non H' r' st o' (rep_non.mpr rfl)
    | ret d S' => rw [hb'] at sat; exact sat
    | exc c ns fs ds' S' => rw [hb'] at sat; exact fun dx σ H' r' st o' x _ => sat dx H' r' st o' x
    | stuck => rw [hb'] at sat; exact sat
end
/-! ### calls -/
def eFn (F : FD) (g : FA) : FE := fun ds S => (g ds S).bind fun ls S1 => F ls S1
section
variable {E : En} {X : Cx} {W : WX} {k n : Nat} {f : Addr} {fd : FuncData} {ps : List Str} {F : FD} {x : Str} {p pos : Pos} {e : Expr} {es : List Expr} {g : FA}
theorem run_fnG {sp : Sp} {Ex : XK} {pins : List (Addr × Obj)} {σ : L2.St} {H : Hp} {s : Shared} {Q : VK} {us : List Value} {vs : List V} (G : FnG X.prog X.w X.K X.mg X.base k f fd ps sp) (hr : Room k X.A) (hg : X.A.guards = some []) (hb : Binds X.K fd ps [])
    (hx : PassesAt (L2.CX X.prog X.w) X σ Ex) (I : Inv X pins σ H s) (r : Vals vs us) (h : sp vs H Q Ex) : wpAny (model X.prog X.w) X.A (call (.ref f) us) (EP X pins σ Q) X.xe s := by
  have hl : us.length = ps.length := r.length.symm.trans (G.len _ _ _ _ h)
  have b := hb s us I.kIn (by simpa using hl)
  rw [List.append_nil] at b
  apply wpAny_call
  apply codeAny_mono (G.run X.A X.stack s H ⟨us, []⟩ us vs Q Ex hr hg I.env0 b r h)
  intro res s' hq
  cases res with
  | error e => exact hx pins H s e s' I hq
  | ok fl => cases fl with
    | ret u => exact I.after hq
    | next => exact hq.elim
    | brk => exact hq.elim
    | cont => exact hq.elim
theorem de_fn (G : FnG X.prog X.w X.K X.mg X.base k f fd ps (spD E ps.length F)) (hr : Room k X.A) (hgu : X.A.guards = some []) (tk : Takes X W) (hg : Gl X x) (hm : X.mg x = some (.ref f)) (hk : PySem.W.keepIn X.K (.ref f) = true) (hb : Binds X.K fd ps [])
    (hn : (e :: es).length = ps.length) (ha : DA E X W (e :: es) g) (hgl : ∀ ds S ls S', g ds S = .ok ls S' → ls.length = (e :: es).length) (hdb : (x == ("__debug__" : Str)) = false := by decide)
    (he : starEach (e :: es) X.env = (false, eval e X.env) :: starEach es X.env := by rfl) (hpl : (backTo pos (starEach es X.env)).any (·.1) = false := by rfl) : DE E X W (.Call (.Name x p) (e :: es) [] pos) (eFn F g) := by
  have main : PE X (.Call (.Name x p) (e :: es) [] pos) (fun σ H Q => tDA E W g σ H fun vs H1 => spD E ps.length F vs H1 Q (WE W σ)) := by
    constructor
    intro pins s σ H Q I h
    apply wpAny_Call_Name_kw
    apply ld_glob I hg hm _ hdb
    apply PySem.W.callWith_K (h₀ := X.base) I.ok.mod.kin hk _ he hpl
    refine thn (ha.run pos pins s σ H _ I h) ?_
    rintro us s1 ⟨vs, H1, I1, r, q⟩
    exact ⟨I1.kIn, run_fnG G hr hgu hb (passAt tk σ) I1 r q⟩
  refine main.imp fun σ H Q ⟨r, ds, S, pp, o, s⟩ => ⟨r, ds, S, pp, o, ?_⟩
  unfold eFn at s
  cases hf : g ds S with
  | ok ls S1 =>
    rw [hf] at s
    exact fun vs H1 r1 st o1 rl => ⟨r1, ls, S1, (hgl _ _ _ _ hf).trans hn, rl, o1, Sat.mono s st⟩
  | exc c ns fs S1 => rw [hf] at s; exact s
  | stuck => rw [hf] at s; exact s
theorem de_fn0 (G : FnG X.prog X.w X.K X.mg X.base k f fd [] (spD E 0 F)) (hr : Room k X.A) (hgu : X.A.guards = some []) (tk : Takes X W) (hg : Gl X x) (hm : X.mg x = some (.ref f)) (hk : PySem.W.keepIn X.K (.ref f) = true) (hb : Binds X.K fd [] [])
    (hdb : (x == ("__debug__" : Str)) = false := by decide) : DE E X W (.Call (.Name x p) [] [] pos) (eFn F aNil) := by
  have main : PE X (.Call (.Name x p) [] [] pos) (fun σ H Q => spD E 0 F [] H Q (WE W σ)) := by
    constructor
    intro pins s σ H Q I h
    apply wpAny_Call_Name_kw
    apply ld_glob I hg hm _ hdb
    exact PySem.W.callWith_K0 I.kIn hk (run_fnG (us := []) G hr hgu hb (passAt tk σ) I .nil h)
  refine main.imp fun σ H Q ⟨r, ds, S, pp, o, s⟩ => ⟨r, [], S, rfl, repL_nil.mpr rfl, o, s⟩
theorem aNil_len : ∀ ds S ls S', aNil ds S = .ok ls S' → ls.length = 0 := fun ds S ls S' h => by cases h; rfl
theorem aCons_len {f : FE} {g : FA} {m : Nat} (hg : ∀ ds S ls S', g ds S = .ok ls S' → ls.length = m) : ∀ ds S ls S', aCons f g ds S = .ok ls S' → ls.length = m + 1 := fun ds S ls S' h => by
  unfold aCons at h
  cases hf : f ds S with
  | ok d S1 =>
    rw [hf] at h
    dsimp only [R.bind_ok] at h
    cases hg' : g ds S1 with
    | ok ms S2 => rw [hg'] at h; cases h; rw [List.length_cons, hg _ _ _ _ hg']
    | exc c ns fs S2 => rw [hg'] at h; cases h
    | stuck => rw [hg'] at h; cases h
  | exc c ns fs S1 => rw [hf] at h; cases h
  | stuck => rw [hf] at h; cases h
end

/-! ### list comprehensions -/
/-- no exception leaves -/
abbrev W0 : WX := fun _ _ _ _ => False
/-- over the walk: the test, the element; an exception is stuck -/
def compW (g : GD) (tt : FT) (fe : FE) (ds : DS) (k : Wk) : Nat → Nat → List D → List D → R (List D)
  | 0, _, acc, S => if k.fin S = true then .ok acc S else .stuck
  | m + 1, i, acc, S => match k.get i S with
    | none => .stuck
    | some d => match g d ds S with
      | none => .stuck
      | some ds' => match tt ds' S with
        | .ok true S1 => (match fe ds' S1 with
          | .ok y S2 => if acc.length < sizeLine then compW g tt fe ds k m (i + 1) (acc ++ [y]) S2 else .stuck
          | _ => .stuck)
        | .ok false S1 => compW g tt fe ds k m (i + 1) acc S1
        | _ => .stuck
def compL (g : GD) (tt : FT) (fe : FE) (ds : DS) : List D → List D → List D → R (List D)
  | [], acc, S => .ok acc S
  | d :: xs, acc, S => match g d ds S with
    | none => .stuck
    | some ds' => match tt ds' S with
      | .ok true S1 => (match fe ds' S1 with
        | .ok y S2 => if acc.length < sizeLine then compL g tt fe ds xs (acc ++ [y]) S2 else .stuck
        | _ => .stuck)
      | .ok false S1 => compL g tt fe ds xs acc S1
      | _ => .stuck
theorem compW_list {g : GD} {tt : FT} {fe : FE} {ds : DS} {xs : List D} : ∀ (m i : Nat) (acc S : List D), i + m = xs.length → compW g tt fe ds (wkL xs) m i acc S = compL g tt fe ds (xs.drop i) acc S
  | 0, i, acc, S, h => by rw [List.drop_eq_nil_of_le (by omega)]; rfl
  | m + 1, i, acc, S, h => by
    have hl : i < xs.length := by omega
    rw [List.drop_eq_getElem_cons hl]
    unfold compW compL
    have e : (wkL xs).get i S = some xs[i] := by show xs[i]? = _; simp [hl]
    rw [e]
    dsimp only
    cases g xs[i] ds S with
    | none => rfl
    | some ds' =>
      dsimp only
      cases tt ds' S with
      | stuck => rfl
      | exc c ns fs S1 => rfl
      | ok b S1 =>
        cases b with
        | false => exact compW_list m (i + 1) acc S1 (by omega)
        | true =>
          dsimp only
          cases fe ds' S1 with
          | stuck => rfl
          | exc c ns fs S2 => rfl
          | ok y S2 =>
            dsimp only
            split
            · exact compW_list m (i + 1) _ S2 (by omega)
            · rfl
def tYesD : FT := fun _ S => .ok true S
/-- a frozen list -/
def eComp (fi : FI) (g : GD) (tt : FT) (fe : FE) (vs : List Nat) : FE := fun ds S => (fi ds S).bind fun k S1 => (compW g tt fe (wipeD ds vs) k k.n 0 [] S1).bind fun ys S2 => .ok (.lst ys) S2
theorem eComp_list {fi : FI} {g : GD} {tt : FT} {fe : FE} {vs : List Nat} {ds : DS} {S S1 : List D} {xs : List D} (h : fi ds S = .ok (wkL xs) S1) : eComp fi g tt fe vs ds S = (compL g tt fe (wipeD ds vs) xs [] S1).bind fun ys S2 => .ok (.lst ys) S2 := by
  unfold eComp
  rw [h]
  show (compW g tt fe (wipeD ds vs) (wkL xs) xs.length 0 [] S1).bind _ = _
  rw [compW_list xs.length 0 [] S1 (by omega), List.drop_zero]
/-- how a block's names are stored: other slots stay -/
def GOwn (g : GD) (vs : List Nat) : Prop := ∀ d ds S ds', g d ds S = some ds' → wipeD ds' vs = wipeD ds vs
theorem wipe_set_mem {σ : L2.St} {i : Nat} {v : Option V} : ∀ {vs : List Nat}, i ∈ vs → wipe (σ.set i v) vs = wipe σ vs
  | [], h => by cases h
  | j :: vs, h => by
    show (wipe (σ.set i v) vs).set j none = (wipe σ vs).set j none
    by_cases hj : i ∈ vs
    · rw [wipe_set_mem hj]
    · have e : i = j := by
        rcases List.mem_cons.mp h with e | e
        · exact e
        · exact absurd e hj
      subst e
      have comm : ∀ (us : List Nat), i ∉ us → wipe (σ.set i v) us = (wipe σ us).set i v := by
        intro us
        induction us with
        | nil => intro _; rfl
        | cons u us ih =>
          intro hu
          show (wipe (σ.set i v) us).set u none = ((wipe σ us).set u none).set i v
          rw [ih (fun z => hu (List.mem_cons_of_mem _ z))]
          exact List.set_comm _ _ (fun z => hu (by rw [z]; exact List.mem_cons_self))
      rw [comm vs hj, List.set_set]
theorem wipe_in {σ : L2.St} {i : Nat} : ∀ {vs : List Nat}, i ∈ vs → (wipe σ vs)[i]? = (σ[i]?).map fun _ => none
  | [], h => by cases h
  | j :: vs, h => by
    show ((wipe σ vs).set j none)[i]? = _
    by_cases e : j = i
    · subst e
      by_cases hl : j < σ.length
      · rw [List.getElem?_set_self (by rw [wipe_length]; exact hl)]
        simp [hl]
      · rw [List.getElem?_eq_none (by rw [List.length_set, wipe_length]; omega), List.getElem?_eq_none (by omega)]
        rfl
    · rw [List.getElem?_set_ne e]
      exact wipe_in ((List.mem_cons.mp h).resolve_left fun q => e q.symm)
theorem wipe_idem (σ : L2.St) (vs : List Nat) : wipe (wipe σ vs) vs = wipe σ vs := by
  apply List.ext_getElem?
  intro i
  by_cases h : i ∈ vs
  · rw [wipe_in h, wipe_in h]
    cases σ[i]? <;> rfl
  · rw [wipe_out h]
/-- the store of a target keeps to the block's names -/
def TOwn (g : TG) (vs : List Nat) : Prop := ∀ (v : V) (σ : L2.St) (H : Hp) (Q : L2.St → Hp → Prop), g v σ H Q → g v σ H (fun σ2 H2 => wipe σ2 vs = wipe σ vs ∧ Q σ2 H2)
theorem tOwn_name {i : Nat} {vs : List Nat} (h : i ∈ vs) : TOwn (gName i) vs := fun v σ H Q q => ⟨wipe_set_mem h, q⟩
theorem tOwn_names {vs : List Nat} : ∀ {is : List Nat}, (∀ i ∈ is, i ∈ vs) → ∀ (ls : List V) (σ : L2.St) (H : Hp) (Q : L2.St → Hp → Prop), gNames is ls σ H Q → gNames is ls σ H (fun σ2 H2 => wipe σ2 vs = wipe σ vs ∧ Q σ2 H2)
  | [], _, ls, σ, H, Q, ⟨e, q⟩ => ⟨e, rfl, q⟩
  | i :: is, h, ls, σ, H, Q, ⟨v, r, e, q⟩ => by
    refine ⟨v, r, e, ?_⟩
    have := tOwn_names (is := is) (fun j hj => h j (List.mem_cons_of_mem _ hj)) r (σ.set i (some v)) H Q q
    rw [wipe_set_mem (h i List.mem_cons_self)] at this
    exact this
theorem tOwn_tup {K : PySem.W.Frag} {n : Nat} {is vs : List Nat} (h : ∀ i ∈ is, i ∈ vs) : TOwn (gTup K n (gNames is)) vs := fun v σ H Q ⟨a, xs, e, t, l, q⟩ => ⟨a, xs, e, t, l, tOwn_names h xs σ H Q q⟩
section
variable {E : En} {X : Cx} {W : WX} {pos : Pos} {elt tg iter : Expr} {ifs : List Expr} {scope : Scope} {own : List (Str × Nat)} {fi : FI} {g : GD} {tt : FT} {fe : FE} {tgt : TG}
abbrev DTs (E : En) (X : Cx) (W : WX) (ifs : List Expr) (t : FT) : Prop := PTs X ifs (tDT E W t)
theorem _root_.L2.PTs.imp {X : Cx} {es : List Expr} {t t' : TT} (h : PTs X es t) (k : ∀ σ H Q, t' σ H Q → t σ H Q) : PTs X es t' := ⟨fun pins s σ H Q I q => h.run pins s σ H Q I (k σ H Q q)⟩
theorem dts_nil : DTs E X W [] tYesD := pts_nil.imp fun σ H Q ⟨r, ds, S, p, o, s⟩ => s.here o
theorem dts_one {c : Expr} (h : DT E X W c tt) : DTs E X W [c] tt := pts_one h
/-- what the making of the list wants -/
theorem lc_core {σ : L2.St} {H : Hp} {Q : VK} {vs : List Nat} (hown : TOwn tgt vs) (hgt : ∀ v σ H Q, tG E g v σ H Q → tgt v σ H Q) (q : tD E W (eComp fi g tt fe vs) σ H Q) : tLc (tDI E W fi) tgt (tDT E W0 tt) (tD E W0 fe) vs σ H Q := by
  obtain ⟨r, ds, S, p, o, s⟩ := q
  refine ⟨r, ds, S, p, o, ?_⟩
  unfold eComp at s
  cases hf : fi ds S with
  | stuck => rw [hf] at s; exact s.elim
  | exc c ns fs S1 => rw [hf] at s; exact s
  | ok xs S1 =>
    rw [hf] at s
    dsimp only [R.bind_ok] at s ⊢
    rename Wk => k
    intro J H1 r1 st1 o1 it Da hDa
    have nz : Da ∉ r1.z := fun h => (o1.zal Da h).1 hDa
    refine ⟨fun i m H' => i + m = k.n ∧ ∃ r' S' acc accv, Step r1 H1 r' H' ∧ Da ∈ r'.z ∧ SOk E r' H' S' ∧ H' Da = some (.lst accv) ∧ RepL E r' H' acc accv ∧ SRep E r' H' (wipeD ds vs) (wipe σ vs) ∧
      Sat E r H ((compW g tt fe (wipeD ds vs) k m i acc S').bind fun ys S2 => .ok (.lst ys) S2) Q (fun c dx H' => W c dx σ H'),
      ⟨k.n, by omega, r1.hide Da, S1, [], [], Step.hide hDa, List.mem_cons_self, o1.hide hDa (fun _ q => nomatch q) (fun _ q => nomatch q), upd_same, repL_nil.mpr rfl, (((p.mono st1).wipe vs).mono (Step.hide hDa)), s⟩, ?_⟩
    rintro i m H' ⟨hm, r', S', acc, accv, st', hz, o', hD, rl, p', s'⟩
    have q := it i r' H' S' st' o'
    cases m with
    | zero =>
      unfold compW at s'
      split at s'
      · refine .inl ⟨q.1 (by omega) (by assumption), ?_⟩
        refine s' (.ref Da) H' (r'.see Da) ((st1.trans st').see fun h => ?_) o'.seen (rep_lst.mpr ⟨Da, accv, rfl, ⟨⟨o'.zl Da hz, fun h => (mem_see h).2 rfl⟩, hD⟩, rl.same same_seen⟩)
        exact nz (st1.z1 Da h)
      · exact s'.elim
    | succ m =>
      unfold compW at s'
      cases hget : k.get i S' with
      | none => rw [hget] at s'; exact s'.elim
      | some d =>
      rw [hget] at s'
      dsimp only at s'
      obtain ⟨hgo, hy⟩ := q.2 d (by omega) hget
      refine .inr ⟨hgo, fun H' => ∃ r' S' acc accv, Step r1 H1 r' H' ∧ Da ∈ r'.z ∧ SOk E r' H' S' ∧ H' Da = some (.lst accv) ∧ RepL E r' H' acc accv ∧ SRep E r' H' (wipeD ds vs) (wipe σ vs) ∧
        Sat E r H ((compW g tt fe (wipeD ds vs) k m (i + 1) acc S').bind fun ys S2 => .ok (.lst ys) S2) Q (fun c dx H' => W c dx σ H'), fun H2 h => ⟨m, by omega, by omega, h⟩, fun x H2 hx => ?_⟩
      obtain ⟨st2, o2, rp⟩ := hy x H2 hx
      have hD2 : H2 Da = some (.lst accv) := st2.kp Da _ hD (o'.zl Da hz) (fun _ q => nomatch q)
      cases hgd : g d (wipeD ds vs) S' with
      | none => rw [hgd] at s'; exact s'.elim
      | some ds2 =>
        rw [hgd] at s'
        dsimp only at s'
        have own' := fun Q => hown x (wipe σ vs) H2 Q
        rw [wipe_idem] at own'
        refine own' _ (hgt _ _ _ _ ⟨r', d, wipeD ds vs, S', p'.mono st2, o2, rp, ds2, hgd, fun σ2 p2 => ?_⟩)
        refine ⟨r', ds2, S', p2, o2, ?_⟩
        cases ht : tt ds2 S' with
        | stuck => rw [ht] at s'; exact s'.elim
        | exc c ns fs S3 => rw [ht] at s'; exact s'.elim
        | ok b S3 =>
          rw [ht] at s'
          intro H3 r3 st3 o3
          have hz3 := st3.z1 Da hz
          have hD3 : H3 Da = some (.lst accv) := st3.kp Da _ hD2 (o'.zl Da hz) (fun _ q => nomatch q)
          have sall := (st'.trans st2).trans st3
          cases b with
          | false =>
            rw [if_neg (by decide)]
            exact ⟨r3, S3, acc, accv, sall, hz3, o3, hD3, (rl.mono st2).mono st3, (p'.mono st2).mono st3, s'⟩
          | true =>
            rw [if_pos rfl]
            dsimp only at s'
            refine ⟨r3, ds2, S3, p2.mono st3, o3, ?_⟩
            cases he : fe ds2 S3 with
            | stuck => rw [he] at s'; exact s'.elim
            | exc c ns fs S4 => rw [he] at s'; exact s'.elim
            | ok y S4 =>
              rw [he] at s'
              dsimp only at s'
              intro yv H4 r4 st4 o4 ry
              have hz4 := st4.z1 Da hz3
              have hD4 : H4 Da = some (.lst accv) := st4.kp Da _ hD3 (o3.zl Da hz3) (fun _ q => nomatch q)
              have al : acc.length = accv.length := rl.length
              split at s'
              · rename_i hlen
                refine ⟨accv, hD4, by rw [← al]; exact hlen, r4, S4, acc ++ [y], accv ++ [yv], ?_, hz4, o4.zput hz4 (fun _ q => nomatch q) (fun _ q => nomatch q), upd_same, ?_, ?_, s'⟩
                · have sa := sall.trans st4
                  refine ⟨sa.ex, fun a u h hr ht => ?_, fun a h => ?_, sa.z1, sa.z2, fun a x u h => by rw [upd_ne (fun (e : a = Da) => by rw [e, hDa] at h; cases h)]; exact sa.fz a x u h⟩
                  · rw [upd_ne (fun (e : a = Da) => by rw [e, hDa] at h; cases h)]
                    exact sa.kp a u h hr ht
                  · by_cases e : a = Da
                    · rw [e, upd_same]; exact fun z => nomatch z
                    · rw [upd_ne e]; exact sa.th a h
                · exact ((((rl.mono st2).mono st3).mono st4).append (.one ry)).same (same_zput hz4)
                · exact (((p'.mono st2).mono st3).mono st4).same (same_zput hz4)
              · exact s'.elim
/-- [elt for tg in iter if ..] -/
theorem de_lc (hc : X.calm = true) (hN : X.N.Nodup) (hi : DI E X W tg iter fi) (ok : BlkOk X.N X.env.scope scope own) (hown : TOwn tgt (own.map (·.2))) (hgt : ∀ v σ H Q, tG E g v σ H Q → tgt v σ H Q)
    (hg : ∀ (s : Shared) (H : Hp) (C : Addr) (cl : List (Str × Addr)) (fp : List Addr), PG (X.blk s H scope (compEnvC scope cl C X.env) fp) tg tgt) (ht : ∀ (s : Shared) (H : Hp) (C : Addr) (cl : List (Str × Addr)) (fp : List Addr), DTs E (X.blk s H scope (compEnvC scope cl C X.env) fp) W0 ifs tt)
    (he : ∀ (s : Shared) (H : Hp) (C : Addr) (cl : List (Str × Addr)) (fp : List Addr), DE E (X.blk s H scope (compEnvC scope cl C X.env) fp) W0 elt fe) (hs : ∀ x, foldedSetIterable iter X.env x = pure x := by intro _; rfl) :
    DE E X W (.ListComp elt [⟨tg, iter, ifs, 0⟩] scope pos) (eComp fi g tt fe (own.map (·.2))) :=
  (pe_lc hc hN hi ok hg ht he hs).imp fun σ H Q q => lc_core hown hgt q
/-- y = [elt for tg in iter if ..] -/
theorem st_lc {i : Nat} {y : Str} {py spos : Pos} (hc : X.calm = true) (hN : X.N.Nodup) (hy : X.N[i]? = some y) (hyl : X.env.scope.names.lookup y = some .local)
    (hsw : swapsWith (.ListComp elt [⟨tg, iter, ifs, 0⟩] scope pos) (some (.Name y py)) spos.line X.env = pure true) (hi : DI E X W tg iter fi) (ok : BlkOk X.N X.env.scope scope own) (hown : TOwn tgt (own.map (·.2))) (hgt : ∀ v σ H Q, tG E g v σ H Q → tgt v σ H Q)
    (hg : ∀ (s : Shared) (H : Hp) (C : Addr) (cl : List (Str × Addr)) (fp : List Addr), PG (X.blk s H scope (compEnvC scope cl C X.env) fp) tg tgt) (ht : ∀ (s : Shared) (H : Hp) (C : Addr) (cl : List (Str × Addr)) (fp : List Addr), DTs E (X.blk s H scope (compEnvC scope cl C X.env) fp) W0 ifs tt)
    (he : ∀ (s : Shared) (H : Hp) (C : Addr) (cl : List (Str × Addr)) (fp : List Addr), DE E (X.blk s H scope (compEnvC scope cl C X.env) fp) W0 elt fe) (hs : ∀ x, foldedSetIterable iter X.env x = pure x := by intro _; rfl) :
    DSt E X W (.Assign [.Name y py] (.ListComp elt [⟨tg, iter, ifs, 0⟩] scope pos) spos) (sSet i (eComp fi g tt fe (own.map (·.2)))) :=
  (ps_setLc hc hN hy hyl hsw hi ok hg ht he hs).imp fun Dn σ H q => lc_core hown hgt (tD_stepS (Q' := fun x H1 => Dn.nx (σ.set i (some x)) H1) q fun r ds S d v H1 p o rp s1 => s1.hereN o (p.set i rp))
end
end Dl

set_option Elab.async false
set_option linter.all false
set_option maxRecDepth 100000
set_option maxHeartbeats 4000000
/-! Dl5: operations on data, each with its rule. -/
namespace Dl
open PySem PySem.Spec PyProof.Rows L2

/-! ### lists and other rows of data -/
def lstOf (d : D) (S : List D) : Option (List D) := match d with
  | .lst xs => some xs
  | .loc n => (match S[n]? with
    | some (.lst xs) => some xs
    | _ => none)
  | _ => none
/-- a list or tuple, to be read -/
def seqOf (d : D) (S : List D) : Option (List D) := match d with
  | .lst xs => some xs
  | .tup xs => some xs
  | .scr ns => some (ns.map .int)
  | .loc n => (match S[n]? with
    | some (.lst xs) => some xs
    | _ => none)
  | _ => none
section
variable {E : En} {r : Reg} {H : Hp} {S : List D} {d : D} {v : V} {xs : List D}
theorem loc_lst {n : Nat} (o : SOk E r H S) (h : S[n]? = some (.lst xs)) (rp : Rep E r H (.loc n) v) : ∃ a vs, v = .ref a ∧ r.l[n]? = some a ∧ H a = some (.lst vs) ∧ RepL E r H xs vs := by
  obtain ⟨a, q, rfl⟩ := rep_loc.mp rp
  obtain ⟨vs, e, l⟩ := o.at_ n a _ q h
  exact ⟨a, vs, rfl, q, e, l⟩
theorem lstOf_some (h : lstOf d S = some xs) (o : SOk E r H S) (rp : Rep E r H d v) : ∃ a vs, v = .ref a ∧ H a = some (.lst vs) ∧ RepL E r H xs vs := by
  unfold lstOf at h
  split at h
  · cases h
    obtain ⟨a, vs, rfl, t, l⟩ := rep_lst.mp rp
    exact ⟨a, vs, rfl, t.2, l⟩
  · split at h
    · cases h
      obtain ⟨a, vs, rfl, _, e, l⟩ := loc_lst o (by assumption) rp
      exact ⟨a, vs, rfl, e, l⟩
    · cases h
  · cases h
theorem seqOf_some (h : seqOf d S = some xs) (o : SOk E r H S) (rp : Rep E r H d v) : ∃ a vs, v = .ref a ∧ (SqL E.K H a vs ∨ SqT E.K H a vs) ∧ RepL E r H xs vs := by
  unfold seqOf at h
  split at h
  · cases h
    obtain ⟨a, vs, rfl, t, l⟩ := rep_lst.mp rp
    exact ⟨a, vs, rfl, .inl t.sq, l⟩
  · cases h
    obtain ⟨a, vs, rfl, t, l⟩ := rep_tup.mp rp
    exact ⟨a, vs, rfl, .inr t.sq, l⟩
  · cases h
    obtain ⟨a, rfl, t⟩ := rep_scr.mp rp
    exact ⟨a, _, rfl, .inl t.sq, repL_ints.mpr rfl⟩
  · split at h
    · cases h
      obtain ⟨a, vs, rfl, _, e, l⟩ := loc_lst o (by assumption) rp
      exact ⟨a, vs, rfl, .inl (.inl (.inl e)), l⟩
    · cases h
  · cases h
end

/-! ### arithmetic -/
def opAdd : Op2 := fun x y S => match x, y with
  | .int i, .int j => .ok (.int (i + j)) S
  | .str a, .str b => if a.length + b.length ≤ sizeLine then .ok (.str (a ++ b)) S else .stuck
  | .tup a, .tup b => if a.length + b.length ≤ sizeLine then .ok (.tup (a ++ b)) S else .stuck
  | x, y => match lstOf x S, lstOf y S with
    | some a, some b => if a.length + b.length ≤ sizeLine then .ok (.lst (a ++ b)) S else .stuck
    | _, _ => .stuck
def rAddA (K : PySem.W.Frag) : R2 := fun x y H Q => rI0 (fun i j => .int (i + j)) x y H Q ∨ (∃ i j, x = .str i ∧ y = .str j ∧ i.length + j.length ≤ sizeLine ∧ Q (.str (i ++ j)) H) ∨ rCatA K x y H Q ∨ rCat x y H Q
theorem op_addA {X : Cx} : OpR X (binaryOp .Add) (rAddA X.K) := .or op_add (.or op_add_str (.or op_catA op_cat))
theorem addS {E : En} : OpS E (rAddA E.K) opAdd := by
  intro r H S d1 d2 v1 v2 Q W o r1 r2 s
  unfold opAdd at s
  split at s
  · exact .inl ⟨_, _, rep_int.mp r1, rep_int.mp r2, s.here o (rep_int.mpr rfl)⟩
  · split at s
    · exact .inr (.inl ⟨_, _, rep_str.mp r1, rep_str.mp r2, by assumption, s.here o (rep_str.mpr rfl)⟩)
    · exact s.elim
  · split at s
    · rename_i hl
      obtain ⟨a, vs, rfl, t1, l1⟩ := rep_tup.mp r1
      obtain ⟨b, ws, rfl, t2, l2⟩ := rep_tup.mp r2
      refine .inr (.inr (.inl ⟨a, b, vs, ws, rfl, rfl, t1.sq, t2.sq, by rw [← l1.length, ← l2.length]; exact hl, fun e => ?_, fun _ e => ?_, fun _ _ p hp => new_tup o (l1.append l2) s hp⟩))
      · subst e
        rename_i d1 d2
        have e1 := l1.length
        simp at e1; subst e1
        exact s.here o r2
      · subst e
        have e1 := l2.length
        simp at e1; subst e1
        rw [List.append_nil] at s
        exact s.here o r1
    · exact s.elim
  · split at s
    · rename_i ha hb
      split at s
      · rename_i hl
        obtain ⟨a, vs, rfl, t1, l1⟩ := lstOf_some ha o r1
        obtain ⟨b, ws, rfl, t2, l2⟩ := lstOf_some hb o r2
        exact .inr (.inr (.inr ⟨a, b, vs, ws, rfl, rfl, t1, t2, by rw [← l1.length, ← l2.length]; exact hl, fun p hp => new_lst o (l1.append l2) s hp⟩))
      · exact s.elim
    · exact s.elim
def opI (f : Int → Int → Int) (c : Int → Int → Bool) : Op2 := fun x y S => match x, y with
  | .int i, .int j => if c i j = true then .ok (.int (f i j)) S else .stuck
  | _, _ => .stuck
theorem opI_S {E : En} {f : Int → Int → Int} {c : Int → Int → Bool} {C : Int → Int → Prop} (hc : ∀ i j, c i j = true → C i j) : OpS E (rI C fun i j => .int (f i j)) (opI f c) := by
  intro r H S d1 d2 v1 v2 Q W o r1 r2 s
  unfold opI at s
  split at s
  · split at s
    · exact ⟨_, _, rep_int.mp r1, rep_int.mp r2, hc _ _ (by assumption), s.here o (rep_int.mpr rfl)⟩
    · exact s.elim
  · exact s.elim
def opSub : Op2 := fun x y S => match x, y with
  | .int i, .int j => .ok (.int (i - j)) S
  | _, _ => .stuck
theorem subS {E : En} : OpS E (rI0 fun i j => .int (i - j)) opSub := by
  intro r H S d1 d2 v1 v2 Q W o r1 r2 s
  unfold opSub at s
  split at s
  · exact ⟨_, _, rep_int.mp r1, rep_int.mp r2, s.here o (rep_int.mpr rfl)⟩
  · exact s.elim
def divOk (_ j : Int) : Bool := decide (0 < j) && decide (j < 1073741824)
def opDiv : Op2 := opI (fun i j => i / j) divOk
theorem divS {E : En} : OpS E (rI CDiv fun i j => .int (i / j)) opDiv := opI_S fun i j h => by
  unfold divOk at h
  rw [Bool.and_eq_true, decide_eq_true_eq, decide_eq_true_eq] at h
  exact h
def modOk (_ j : Int) : Bool := decide (0 < j)
def opMod : Op2 := opI (fun i j => i % j) modOk
theorem modS {E : En} : OpS E (rI (fun _ j => 0 < j) fun i j => .int (i % j)) opMod := opI_S fun i j h => of_decide_eq_true h
def powOk (i j : Int) : Bool := decide (0 ≤ j) && (decide (j ≤ 1000) && decide (i.natAbs < 2 ^ 64))
def opPow : Op2 := opI (fun i j => i ^ j.toNat) powOk
theorem powS {E : En} : OpS E (rI CPow fun i j => .int (i ^ j.toNat)) opPow := opI_S fun i j h => by
  unfold powOk at h
  rw [Bool.and_eq_true, Bool.and_eq_true, decide_eq_true_eq, decide_eq_true_eq, decide_eq_true_eq] at h
  exact ⟨h.1, by omega, h.2.2⟩
def mulOk (i j : Int) : Bool := (decide (-(2 ^ 64) < i) && decide (i < 2 ^ 64)) || (decide (-(2 ^ 64) < j) && decide (j < 2 ^ 64))
theorem mulOk_C {i j : Int} (h : mulOk i j = true) : CMul i j := by
  unfold mulOk at h
  rw [Bool.or_eq_true, Bool.and_eq_true, Bool.and_eq_true, decide_eq_true_eq, decide_eq_true_eq, decide_eq_true_eq, decide_eq_true_eq] at h
  exact h
/-- a product; a list or a tuple times an int -/
def opMul : Op2 := fun x y S => match x, y with
  | .int i, .int j => if mulOk i j = true then .ok (.int (i * j)) S else .stuck
  | .tup a, .int k => if (!a.isEmpty && (decide (2 ≤ k) && (decide (k ≤ 1000) && decide (a.length ≤ 1000)))) = true then .ok (.tup (List.replicate k.toNat a).flatten) S else .stuck
  | x, .int k => (match lstOf x S with
    | some a => if (decide (-(2 ^ 63) ≤ k) && (decide (k < 2 ^ 63) && decide (a.length * k.toNat ≤ sizeLine))) = true then .ok (.lst (List.replicate k.toNat a).flatten) S else .stuck
    | none => .stuck)
  | _, _ => .stuck
def rMulA (K : PySem.W.Frag) : R2 := fun x y H Q => rI CMul (fun i j => .int (i * j)) x y H Q ∨ rRepT K x y H Q ∨ rRep x y H Q
theorem op_mulA {X : Cx} : OpR X (binaryOp .Mult) (rMulA X.K) := .or op_mul (.or op_repT op_rep)
theorem RepL.rep {E : En} {r : Reg} {H : Hp} {ds : List D} {vs : List V} (l : RepL E r H ds vs) : ∀ k : Nat, RepL E r H (List.replicate k ds).flatten (List.replicate k vs).flatten
  | 0 => repL_nil.mpr rfl
  | k + 1 => by
    rw [List.replicate_succ, List.replicate_succ, List.flatten_cons, List.flatten_cons]
    exact l.append (RepL.rep l k)
/-- new list, at an op that goes as a store object -/
theorem mulS {E : En} : OpS E (rMulA E.K) opMul := by
  intro r H S d1 d2 v1 v2 Q W o r1 r2 s
  unfold opMul at s
  split at s
  · split at s
    · exact .inl ⟨_, _, rep_int.mp r1, rep_int.mp r2, mulOk_C (by assumption), s.here o (rep_int.mpr rfl)⟩
    · exact s.elim
  · split at s
    · rename_i a k hk
      simp only [Bool.and_eq_true, Bool.not_eq_true', decide_eq_true_eq] at hk
      obtain ⟨p, vs, rfl, t, l⟩ := rep_tup.mp r1
      refine .inr (.inl ⟨p, k, vs, rfl, rep_int.mp r2, t.sq, ?_, hk.2.1, hk.2.2.1, by rw [← l.length]; exact hk.2.2.2, fun q hq => new_tup o (l.rep _) s hq⟩)
      rintro rfl
      have := l.length
      simp at this; subst this
      simp at hk
    · exact s.elim
  · split at s
    · split at s
      · rename_i k _ _ _ a ha hk
        simp only [Bool.and_eq_true, decide_eq_true_eq] at hk
        obtain ⟨p, vs, rfl, t, l⟩ := lstOf_some ha o r1
        exact .inr (.inr ⟨p, _, vs, rfl, rep_int.mp r2, t, hk.1, hk.2.1, by rw [← l.length]; exact hk.2.2, fun q hq => new_lst o (l.rep _) s hq⟩)
      · exact s.elim
    · exact s.elim
  · exact s.elim
def opNeg : Op1 := fun x S => match x with
  | .int i => .ok (.int (-i)) S
  | _ => .stuck
theorem negS {E : En} : UnS E (rU fun i => .int (-i)) opNeg := by
  intro r H S d v Q W o rp s
  unfold opNeg at s
  split at s
  · exact ⟨_, rep_int.mp rp, s.here o (rep_int.mpr rfl)⟩
  · exact s.elim
/-! ### comparisons of ints -/
def opB (f : Int → Int → Bool) : Op2 := fun x y S => match x, y with
  | .int i, .int j => .ok (.bl (f i j)) S
  | _, _ => .stuck
theorem opB_S {E : En} {f : Int → Int → Bool} : OpS E (rI0 fun i j => .bl (f i j)) (opB f) := by
  intro r H S d1 d2 v1 v2 Q W o r1 r2 s
  unfold opB at s
  split at s
  · exact ⟨_, _, rep_int.mp r1, rep_int.mp r2, s.here o (rep_bl.mpr rfl)⟩
  · exact s.elim
def opLt : Op2 := opB fun i j => decide (i < j)
def opLe : Op2 := opB fun i j => decide (i ≤ j)
def opGt : Op2 := opB fun i j => decide (j < i)
def opGe : Op2 := opB fun i j => decide (j ≤ i)
theorem ltS {E : En} : OpS E (rI0 fun i j => .bl (decide (i < j))) opLt := opB_S
theorem leS {E : En} : OpS E (rI0 fun i j => .bl (decide (i ≤ j))) opLe := opB_S
theorem gtS {E : En} : OpS E (rI0 fun i j => .bl (decide (j < i))) opGt := opB_S
theorem geS {E : En} : OpS E (rI0 fun i j => .bl (decide (j ≤ i))) opGe := opB_S
/-! ### is None -/
def isN (d : D) : Bool := match d with
  | .non => true
  | _ => false
theorem isN_v {E : En} {r : Reg} {H : Hp} {d : D} {v : V} (rp : Rep E r H d v) : decide (v = .non) = isN d := by
  cases d with
  | non => rw [rep_non.mp rp]; rfl
  | bl b => rw [rep_bl.mp rp]; rfl
  | int i => rw [rep_int.mp rp]; rfl
  | str x => rw [rep_str.mp rp]; rfl
  | tup ds => obtain ⟨a, _, rfl, _⟩ := rep_tup.mp rp; rfl
  | lst ds => obtain ⟨a, _, rfl, _⟩ := rep_lst.mp rp; rfl
  | dic ks ds => obtain ⟨a, _, rfl, _⟩ := rep_dic.mp rp; rfl
  | set xs => obtain ⟨a, rfl, _⟩ := rep_set.mp rp; rfl
  | obj c ns ds => obtain ⟨a, _, _, rfl, _⟩ := rep_obj.mp rp; rfl
  | loc n => obtain ⟨a, _, rfl⟩ := rep_loc.mp rp; rfl
  | scr ns => obtain ⟨a, rfl, _⟩ := rep_scr.mp rp; rfl
  | lkd ks ds => exact (rep_lkd rp).elim
def opIsN : Op2 := fun x y S => match y with
  | .non => .ok (.bl (isN x)) S
  | _ => .stuck
def opNotN : Op2 := fun x y S => match y with
  | .non => .ok (.bl (!isN x)) S
  | _ => .stuck
theorem isNS {E : En} : OpS E (fun x y H Q => y = .non ∧ Q (.bl (decide (x = .non))) H) opIsN := by
  intro r H S d1 d2 v1 v2 Q W o r1 r2 s
  unfold opIsN at s
  split at s
  · exact ⟨rep_non.mp r2, by rw [isN_v r1]; exact s.here o (rep_bl.mpr rfl)⟩
  · exact s.elim
theorem notNS {E : En} : OpS E (fun x y H Q => y = .non ∧ Q (.bl (!decide (x = .non))) H) opNotN := by
  intro r H S d1 d2 v1 v2 Q W o r1 r2 s
  unfold opNotN at s
  split at s
  · exact ⟨rep_non.mp r2, by rw [isN_v r1]; exact s.here o (rep_bl.mpr rfl)⟩
  · exact s.elim

/-! ### data, as the library knows it -/
mutual
def toPy : D → Option PyData
  | .non => some .none
  | .bl b => some (.bool b)
  | .int i => some (.int i)
  | .str x => some (.str x)
  | .tup ds => (toPyL ds).map .tuple
  | .lst ds => (toPyL ds).map .list
  | .dic _ _ => none
  | .set _ => none
  | .obj _ _ _ => none
  | .loc _ => none
  | .scr ns => some (.list (ns.map .int))
  | .lkd _ _ => none
def toPyL : List D → Option (List PyData)
  | [] => some []
  | d :: ds => match toPy d, toPyL ds with
    | some p, some ps => some (p :: ps)
    | _, _ => none
end
def toPyS (d : D) (S : List D) : Option PyData := match d with
  | .loc n => (match S[n]? with
    | some (.lst ds) => (toPyL ds).map .list
    | _ => none)
  | d => toPy d
theorem dpAll_ints {K : PySem.W.Frag} {H : Hp} : ∀ (ns : List Int), DpAll K H (ns.map V.int) (ns.map PyData.int)
  | [] => .nil
  | n :: ns => .cons (.int n) (dpAll_ints ns)
section
variable {E : En} {r : Reg} {H : Hp}
mutual
theorem toPy_dp : ∀ (d : D) (v : V) (p : PyData), toPy d = some p → Rep E r H d v → Dp E.K H v p
  | .non, v, p, h, rp => by unfold toPy at h; cases h; rw [rep_non.mp rp]; exact .non
  | .bl b, v, p, h, rp => by unfold toPy at h; cases h; rw [rep_bl.mp rp]; exact .bl b
  | .int i, v, p, h, rp => by unfold toPy at h; cases h; rw [rep_int.mp rp]; exact .int i
  | .str x, v, p, h, rp => by unfold toPy at h; cases h; rw [rep_str.mp rp]; exact .str x
  | .tup ds, v, p, h, rp => by
    unfold toPy at h
    obtain ⟨a, vs, rfl, t, l⟩ := rep_tup.mp rp
    cases hl : toPyL ds with
    | none => rw [hl] at h; cases h
    | some ps => rw [hl] at h; cases h; exact .tup t.sq (toPyL_dp ds vs ps hl l)
  | .lst ds, v, p, h, rp => by
    unfold toPy at h
    obtain ⟨a, vs, rfl, t, l⟩ := rep_lst.mp rp
    cases hl : toPyL ds with
    | none => rw [hl] at h; cases h
    | some ps => rw [hl] at h; cases h; exact .lst t.sq (toPyL_dp ds vs ps hl l)
  | .dic _ _, v, p, h, rp => by unfold toPy at h; cases h
  | .set _, v, p, h, rp => by unfold toPy at h; cases h
  | .obj _ _ _, v, p, h, rp => by unfold toPy at h; cases h
  | .loc _, v, p, h, rp => by unfold toPy at h; cases h
  | .scr ns, v, p, h, rp => by
    unfold toPy at h; cases h
    obtain ⟨a, rfl, t⟩ := rep_scr.mp rp
    exact .lst t.sq (dpAll_ints ns)
  | .lkd _ _, v, p, h, rp => by unfold toPy at h; cases h
theorem toPyL_dp : ∀ (ds : List D) (vs : List V) (ps : List PyData), toPyL ds = some ps → RepL E r H ds vs → DpAll E.K H vs ps
  | [], vs, ps, h, rl => by unfold toPyL at h; cases h; rw [repL_nil.mp rl]; exact .nil
  | d :: ds, vs, ps, h, rl => by
    unfold toPyL at h
    obtain ⟨v, ws, rfl, h1, h2⟩ := repL_cons.mp rl
    cases hd : toPy d with
    | none => rw [hd] at h; cases h
    | some p =>
      cases hl : toPyL ds with
      | none => rw [hd, hl] at h; cases h
      | some qs => rw [hd, hl] at h; cases h; exact .cons (toPy_dp d v p hd h1) (toPyL_dp ds ws qs hl h2)
end
theorem toPyS_dp {S : List D} {d : D} {v : V} {p : PyData} (h : toPyS d S = some p) (o : SOk E r H S) (rp : Rep E r H d v) : Dp E.K H v p := by
  unfold toPyS at h
  split at h
  · split at h
    · rename_i n ds hn
      obtain ⟨a, vs, rfl, _, e, l⟩ := loc_lst o hn rp
      cases hl : toPyL ds with
      | none => rw [hl] at h; cases h
      | some ps => rw [hl] at h; cases h; exact .lst (.inl (.inl e)) (toPyL_dp ds vs ps hl l)
    · cases h
  · exact toPy_dp _ _ _ h rp
end
def opEq : Op2 := fun x y S => match x, y with
  | .str a, .str b => .ok (.bl (decide (a = b))) S
  | .int a, .int b => .ok (.bl (decide (a = b))) S
  | x, y => match toPyS x S, toPyS y S with
    | some a, some b => if (SeqAt.shaped a && SeqAt.shaped b) = true then .ok (.bl (PyData.eqv a b)) S else .stuck
    | _, _ => .stuck
def opNe : Op2 := fun x y S => match x, y with
  | .str a, .str b => .ok (.bl (!decide (a = b))) S
  | .int a, .int b => .ok (.bl (!decide (a = b))) S
  | x, y => match toPyS x S, toPyS y S with
    | some a, some b => if (SeqAt.shaped a && SeqAt.shaped b) = true then .ok (.bl (!PyData.eqv a b)) S else .stuck
    | _, _ => .stuck
def rEqA (K : PySem.W.Frag) : R2 := fun x y H Q => rEq x y H Q ∨ rEqD K x y H Q
def rNeA (K : PySem.W.Frag) : R2 := fun x y H Q => rNe x y H Q ∨ rNeD K x y H Q
theorem op_eqA {X : Cx} (hu : X.A.units + 64 < cLine) : OpR X (compareOp .Eq) (rEqA X.K) := .or op_eq (op_eqD hu)
theorem op_neA {X : Cx} (hu : X.A.units + 64 < cLine) : OpR X (compareOp .NotEq) (rNeA X.K) := .or op_ne (op_neD hu)
theorem str_eq_v {i j : Str} : decide (V.str i = V.str j) = decide (i = j) := by
  by_cases h : i = j
  · subst h; simp
  · rw [decide_eq_false h, decide_eq_false fun q => h (V.str.inj q)]
theorem int_eq_v {i j : Int} : decide (V.int i = V.int j) = decide (i = j) := by
  by_cases h : i = j
  · subst h; simp
  · rw [decide_eq_false h, decide_eq_false fun q => h (V.int.inj q)]
theorem eqS {E : En} : OpS E (rEqA E.K) opEq := by
  intro r H S d1 d2 v1 v2 Q W o r1 r2 s
  unfold opEq at s
  split at s
  · rw [rep_str.mp r1, rep_str.mp r2]
    exact .inl ⟨rfl, by rw [str_eq_v]; exact s.here o (rep_bl.mpr rfl)⟩
  · rw [rep_int.mp r1, rep_int.mp r2]
    exact .inl ⟨rfl, by rw [int_eq_v]; exact s.here o (rep_bl.mpr rfl)⟩
  · split at s
    · split at s
      · rename_i a b ha hb hs
        rw [Bool.and_eq_true] at hs
        exact .inr ⟨a, b, toPyS_dp ha o r1, toPyS_dp hb o r2, hs.1, hs.2, s.here o (rep_bl.mpr rfl)⟩
      · exact s.elim
    · exact s.elim
theorem neS {E : En} : OpS E (rNeA E.K) opNe := by
  intro r H S d1 d2 v1 v2 Q W o r1 r2 s
  unfold opNe at s
  split at s
  · rw [rep_str.mp r1, rep_str.mp r2]
    exact .inl ⟨rfl, by rw [str_eq_v]; exact s.here o (rep_bl.mpr rfl)⟩
  · rw [rep_int.mp r1, rep_int.mp r2]
    exact .inl ⟨rfl, by rw [int_eq_v]; exact s.here o (rep_bl.mpr rfl)⟩
  · split at s
    · split at s
      · rename_i a b ha hb hs
        rw [Bool.and_eq_true] at hs
        exact .inr ⟨a, b, toPyS_dp ha o r1, toPyS_dp hb o r2, hs.1, hs.2, s.here o (rep_bl.mpr rfl)⟩
      · exact s.elim
    · exact s.elim
/-! ### repr -/
def rRepr (K : PySem.W.Frag) : List V → Hp → VK → Prop := fun xs H Q => ∃ x d, xs = [x] ∧ Dp K H x d ∧ d.showable = true ∧ d.hasDict = false ∧ d.depth ≤ 62 ∧ d.shown.length ≤ 16000000 ∧ Q (.str d.shown) H
theorem sizeL {n : Nat} (h : n ≤ 16000000) : n ≤ sizeLine := by rw [sizeLine_eq]; omega
theorem cr_repr {X : Cx} {k : Nat} (hr : Room k X.A) (hg : X.A.guards = some []) : CallR X (.builtin "repr") (rRepr X.K) := by
  intro pins s σ H xs us Q I rv h
  obtain ⟨x, d, rfl, dp, hs, hd, hdep, hsz, q⟩ := h
  obtain ⟨u, rfl, rx⟩ := vals1 rv
  have hz : d.shown.length ≤ sizeLine := sizeL hsz
  obtain ⟨as, rd⟩ := Dp.reads I d x u dp rx
  cases dp with
  | non => cases rx; exact PySem.P.repr_of_none ⟨.str _, H, I.tok _, ⟨_, rfl⟩, q⟩
  | bl b => cases rx; exact PySem.P.repr_of_bool ⟨.str _, H, I.tok _, ⟨_, rfl⟩, q⟩
  | int i => obtain ⟨t, rfl⟩ := rx; exact PySem.P.repr_of_int (of_decide_eq_true hs) ⟨.str _, H, I.tok _, ⟨_, rfl⟩, q⟩
  | str z => obtain ⟨t, rfl⟩ := rx; exact PySem.P.repr_of_str ⟨.str _, H, I.tok _, ⟨_, rfl⟩, q⟩ hz
  | lst t l =>
    cases rx
    have hu := hr.units
    refine repr_of_reads' rd hs (fun e => by rw [hd] at e; cases e) hg (by omega) (fun _ _ e => e) (fun h' u' tk hk => ⟨.str _, H, (I.kept hk), ⟨_, rfl⟩, q⟩) hz
  | tup t l =>
    cases rx
    have hu := hr.units
    refine repr_of_reads' rd hs (fun e => by rw [hd] at e; cases e) hg (by omega) (fun _ _ e => e) (fun h' u' tk hk => ⟨.str _, H, (I.kept hk), ⟨_, rfl⟩, q⟩) hz
def reprOk (p : PyData) : Bool := p.showable && (!p.hasDict && (decide (p.depth ≤ 62) && decide (p.shown.length ≤ 16000000)))
def opRepr : OpN := fun ls S => match ls with
  | [d] => (match toPyS d S with
    | some p => if reprOk p = true then .ok (.str p.shown) S else .stuck
    | none => .stuck)
  | _ => .stuck
theorem reprS {E : En} : CallS E (rRepr E.K) opRepr := by
  intro r H S ds vs Q W o rl s
  unfold opRepr at s
  split at s
  · split at s
    · split at s
      · rename_i d p hp hok
        unfold reprOk at hok
        simp only [Bool.and_eq_true, Bool.not_eq_true', decide_eq_true_eq] at hok
        obtain ⟨v, ws, rfl, h1, h2⟩ := repL_cons.mp rl
        rw [repL_nil.mp h2]
        exact ⟨v, p, rfl, toPyS_dp hp o h1, hok.1, hok.2.1, hok.2.2.1, hok.2.2.2, s.here o (rep_str.mpr rfl)⟩
      · exact s.elim
    · exact s.elim
  · exact s.elim
end Dl

set_option Elab.async false
set_option linter.all false
set_option maxRecDepth 100000
set_option maxHeartbeats 4000000
/-! Dl6: subscripts, len, in, lists that change, slices, isinstance. -/
namespace Dl
open PySem PySem.Spec PyProof.Rows L2

section
variable {E : En} {r : Reg} {H : Hp} {S : List D}
theorem RepL.atI {ds : List D} {vs : List V} {i : Int} {d : D} (l : RepL E r H ds vs) (h : L2.atI ds i = some d) : ∃ v, L2.atI vs i = some v ∧ Rep E r H d v := by
  unfold L2.atI at h ⊢
  rw [← l.length]
  cases hi : ixN ds.length i with
  | none => rw [hi] at h; cases h
  | some j =>
    rw [hi] at h
    exact l.get h
/-- a list of the store is rewritten -/
theorem put_lst {n : Nat} {a : Addr} {vs ws : List V} {ys : List D} (o : SOk E r H S) (ha : r.l[n]? = some a) (e : H a = some (.lst vs)) (l : RepL E r H ys ws) : Step r H r (upd H a (.lst ws)) ∧ SOk E r (upd H a (.lst ws)) (S.set n (.lst ys)) := by
  have nf : ∀ x u, H a ≠ some (.frz x u) := fun x u h => by rw [e] at h; cases h
  have st : Step r H r (upd H a (.lst ws)) := Step.put (List.mem_of_getElem? ha) nf
  exact ⟨st, o.put ha nf ⟨ws, upd_same, l.mono st⟩⟩
end
/-! ### keys and pairs -/
def keyOf : D → Option Key
  | .int i => some (.inl i)
  | .str x => some (.inr x)
  | _ => none
def keyD : Key → D
  | .inl i => .int i
  | .inr x => .str x
def valD : List Key → List D → Key → Option D
  | j :: ks, d :: ds, k => if j = k then some d else valD ks ds k
  | _, _, _ => none
/-- the values behind a store at k; the keys behind it -/
def putDv (ks : List Key) (ds : List D) (k : Key) (e : D) : List D := if (ks.any fun j => decide (j = k)) = true then List.zipWith (fun j d => if j = k then e else d) ks ds else ds ++ [e]
def putDk (ks : List Key) (k : Key) : List Key := if (ks.any fun j => decide (j = k)) = true then ks else ks ++ [k]
def dicOf (d : D) (S : List D) : Option (List Key × List D) := match d with
  | .dic ks ds => some (ks, ds)
  | .loc n => (match S[n]? with
    | some (.dic ks ds) => some (ks, ds)
    | _ => none)
  | _ => none
section
variable {E : En} {r : Reg} {H : Hp} {S : List D}
theorem keyOf_v {d : D} {v : V} {k : Key} (h : keyOf d = some k) (rp : Rep E r H d v) : v = kV k := by
  unfold keyOf at h
  split at h
  · cases h; exact rep_int.mp rp
  · cases h; exact rep_str.mp rp
  · cases h
theorem valD_v : ∀ {kvs : List (Key × V)} {ds : List D} {k : Key}, RepL E r H ds (kvs.map (·.2)) → (∀ d, valD (kvs.map (·.1)) ds k = some d → ∃ v, valV kvs k = some v ∧ Rep E r H d v) ∧ (valD (kvs.map (·.1)) ds k = none → valV kvs k = none)
  | [], [], k, l => ⟨fun d h => by simp [valD] at h, fun _ => valV_nil⟩
  | [], _ :: _, k, l => by have := l.length; simp at this
  | p :: kvs, [], k, l => by have := l.length; simp at this
  | p :: kvs, d :: ds, k, l => by
      obtain ⟨v, ws, e, h1, h2⟩ := repL_cons.mp l
      rw [List.map_cons] at e
      cases e
      by_cases hk : p.1 = k
      · refine ⟨fun d' h => ?_, fun h => ?_⟩
        · rw [List.map_cons] at h
          unfold valD at h
          rw [if_pos hk] at h; cases h
          exact ⟨_, valV_pos hk, h1⟩
        · rw [List.map_cons] at h
          unfold valD at h
          rw [if_pos hk] at h; cases h
      · have ih := valD_v (kvs := kvs) (ds := ds) (k := k) h2
        rw [valV_neg hk, List.map_cons]
        unfold valD
        rw [if_neg hk]
        exact ih
theorem putK_eq (kvs : List (Key × V)) (k : Key) (v : V) : (putK kvs k v).map (·.1) = putDk (kvs.map (·.1)) k := by
  unfold putK putDk
  rw [List.any_map]
  show _ = if (kvs.any fun kv => decide (kv.1 = k)) = true then _ else _
  split
  · rw [List.map_map]
    apply List.map_congr_left
    intro p hp
    show (if p.1 = k then (p.1, v) else p).1 = p.1
    split <;> rfl
  · rw [List.map_append]
    rfl
end
section
variable {E : En} {r : Reg} {H : Hp} {S : List D}
theorem zip_v {k : Key} {e : D} {u : V} (re : Rep E r H e u) : ∀ {kvs : List (Key × V)} {ds : List D}, RepL E r H ds (kvs.map (·.2)) → RepL E r H (List.zipWith (fun j d => if j = k then e else d) (kvs.map (·.1)) ds) ((kvs.map fun kv => if kv.1 = k then (kv.1, u) else kv).map (·.2))
  | [], [], l => l
  | [], _ :: _, l => by have := l.length; simp at this
  | p :: kvs, [], l => by have := l.length; simp at this
  | p :: kvs, d :: ds, l => by
    obtain ⟨v, ws, eq, h1, h2⟩ := repL_cons.mp l
    rw [List.map_cons] at eq
    cases eq
    rw [List.map_cons, List.zipWith_cons_cons, List.map_cons, List.map_cons]
    refine repL_cons.mpr ⟨_, _, rfl, ?_, zip_v re h2⟩
    by_cases hk : p.1 = k
    · rw [if_pos hk, if_pos hk]; exact re
    · rw [if_neg hk, if_neg hk]; exact h1
theorem putD_v {k : Key} {e : D} {u : V} (re : Rep E r H e u) {kvs : List (Key × V)} {ds : List D} (l : RepL E r H ds (kvs.map (·.2))) : RepL E r H (putDv (kvs.map (·.1)) ds k e) ((putK kvs k u).map (·.2)) := by
  unfold putDv putK
  rw [List.any_map]
  show RepL E r H (if (kvs.any fun kv => decide (kv.1 = k)) = true then _ else _) _
  split
  · exact zip_v re l
  · rw [List.map_append]
    exact l.append (.one re)
theorem loc_dic {n : Nat} {v : V} {ks : List Key} {ds : List D} (o : SOk E r H S) (h : S[n]? = some (.dic ks ds)) (rp : Rep E r H (.loc n) v) : ∃ a kvs, v = .ref a ∧ r.l[n]? = some a ∧ H a = some (.dK kvs) ∧ kvs.map (·.1) = ks ∧ RepL E r H ds (kvs.map (·.2)) := by
  obtain ⟨a, q, rfl⟩ := rep_loc.mp rp
  obtain ⟨kvs, e, e2, l⟩ := o.at_ n a _ q h
  exact ⟨a, kvs, rfl, q, e, e2, l⟩
theorem dicOf_some {d : D} {v : V} {ks : List Key} {ds : List D} (h : dicOf d S = some (ks, ds)) (o : SOk E r H S) (rp : Rep E r H d v) : ∃ a kvs, v = .ref a ∧ H a = some (.dK kvs) ∧ kvs.map (·.1) = ks ∧ RepL E r H ds (kvs.map (·.2)) := by
  unfold dicOf at h
  split at h
  · cases h
    obtain ⟨a, kvs, rfl, _, e, e2, l⟩ := rep_dic.mp rp
    exact ⟨a, kvs, rfl, e, e2, l⟩
  · split at h
    · cases h
      obtain ⟨a, kvs, rfl, _, e, e2, l⟩ := loc_dic o (by assumption) rp
      exact ⟨a, kvs, rfl, e, e2, l⟩
    · cases h
  · cases h
/-- a dict of the store is rewritten -/
theorem put_dic {n : Nat} {a : Addr} {kvs kvs' : List (Key × V)} {ks : List Key} {ys : List D} (o : SOk E r H S) (ha : r.l[n]? = some a) (e : H a = some (.dK kvs)) (hk : kvs'.map (·.1) = ks) (l : RepL E r H ys (kvs'.map (·.2))) : Step r H r (upd H a (.dK kvs')) ∧ SOk E r (upd H a (.dK kvs')) (S.set n (.dic ks ys)) := by
  have nf : ∀ x u, H a ≠ some (.frz x u) := fun x u h => by rw [e] at h; cases h
  have st : Step r H r (upd H a (.dK kvs')) := Step.put (List.mem_of_getElem? ha) nf
  exact ⟨st, o.put ha nf ⟨kvs', upd_same, hk, l.mono st⟩⟩
end
/-! ### a[i] -/
def opIx : Op2 := fun x y S => match dicOf x S with
  | some (ks, ds) => (match keyOf y with
    | some k => (match valD ks ds k with
      | some d => .ok d S
      | none => .stuck)
    | none => .stuck)
  | none => match y with
    | .int i => (match x with
      | .str z => if z.length ≤ sizeLine then (match atI z.cps.toList i with
        | some c => .ok (.str ⟨#[c]⟩) S
        | none => .stuck) else .stuck
      | x => (match seqOf x S with
        | some xs => (match atI xs i with
          | some d => .ok d S
          | none => .stuck)
        | none => .stuck))
    | _ => .stuck
def rIxD : R2 := fun x y H Q => ∃ a v, x = .ref a ∧ DGet H a y (some v) ∧ Q v H
theorem ix_dict {X : Cx} (hu : X.A.units + 1 < cLine) : IxR X rIxD := by
  intro value slice pins s σ H x y v u Q I rx ry h hs
  obtain ⟨a, z, rfl, g, q⟩ := h
  cases rx
  exact tail_any (dict_typeIs I g) PySem.F.slot_dict_getitem.lookup (d_getItem hu I g ry fun w' s3 I3 rw' => ⟨z, H, I3, rw', q⟩) hs
def rIxA (K : PySem.W.Frag) : R2 := fun x y H Q => rIx K x y H Q ∨ rIxD x y H Q
theorem ixS {E : En} : OpS E (rIxA E.K) opIx := by
  intro r H S d1 d2 v1 v2 Q W o r1 r2 s
  unfold opIx at s
  split at s
  · split at s
    · split at s
      · rename_i hd _ _ hk _ _ hv
        obtain ⟨a, kvs, rfl, e, rfl, l⟩ := dicOf_some hd o r1
        obtain ⟨v, ev, rp⟩ := (valD_v l).1 _ hv
        have := keyOf_v hk r2
        subst this
        exact .inr ⟨a, v, rfl, ev ▸ DGet.k e, s.here o rp⟩
      · exact s.elim
    · exact s.elim
  · refine .inl ?_
    split at s
    · split at s
      · split at s
        · split at s
          · exact .inr (.inr ⟨_, _, _, rep_str.mp r1, rep_int.mp r2, by assumption, by assumption, s.here o (rep_str.mpr rfl)⟩)
          · exact s.elim
        · exact s.elim
      · split at s
        · split at s
          · rename_i hx _ d hd
            obtain ⟨a, vs, rfl, t, l⟩ := seqOf_some hx o r1
            obtain ⟨v, hv, rp⟩ := l.atI hd
            rcases t with t | t
            · exact .inl ⟨a, vs, _, v, rfl, rep_int.mp r2, t, hv, s.here o rp⟩
            · exact .inr (.inl ⟨a, vs, _, v, rfl, rep_int.mp r2, t, hv, s.here o rp⟩)
          · exact s.elim
        · exact s.elim
    · exact s.elim
theorem de_ix {E : En} {X : Cx} {W : WX} {a b : Expr} {f g : FE} {pos : Pos} {k : Nat} (hK : E.K = X.K) (hr : Room k X.A) (ha : DE E X W a f) (hb : DE E X W b g) (hs : PlainIx b := by exact fun _ _ => rfl) : DE E X W (.Subscript a b pos) (eOp opIx f g) :=
  (pe_ix (ix_seq.or (ix_dict (by have := hr.units; omega))) ha hb hs).imp (hK ▸ tD_op ixS)
/-! ### len -/
def lenD (d : D) : Option Nat := match d with
  | .lst xs => some xs.length
  | .tup xs => some xs.length
  | .scr ns => some ns.length
  | .set xs => some xs.length
  | .dic ks _ => some ks.length
  | .str z => if z.length ≤ sizeLine then some z.length else none
  | _ => none
def opLen : OpN := fun ls S => match ls with
  | [.loc n] => (match S[n]? with
    | some d => (match lenD d with
      | some n => .ok (.int n) S
      | none => .stuck)
    | none => .stuck)
  | [d] => (match lenD d with
    | some n => .ok (.int n) S
    | none => .stuck)
  | _ => .stuck
def rLenA (K : PySem.W.Frag) (w : World) : List V → Hp → VK → Prop := fun xs H Q => (∃ x n, xs = [x] ∧ LenV K x H n ∧ Q (.int n) H) ∨ (∃ a kvs, xs = [V.ref a] ∧ H a = some (.dK kvs) ∧ Q (.int kvs.length) H) ∨
  ∃ a S n, xs = [V.ref a] ∧ H a = some (SetO w a S n) ∧ Q (.int (n : Nat)) H
theorem cr_len_set {X : Cx} : CallR X (.builtin "len") (fun xs H Q => ∃ a S n, xs = [V.ref a] ∧ H a = some (SetO X.w a S n) ∧ Q (.int (n : Nat)) H) := by
  intro pins s σ H xs us Q I r h
  obtain ⟨a, S, n, rfl, ha, q⟩ := h
  obtain ⟨u, rfl, ru⟩ := vals1 r
  cases ru
  obtain ⟨o, es, ep, t, ho, hex, hd, _, _, _, hlt, hf, hn, _⟩ := setO_get I ha
  subst hn
  exact call_len_set ho hex hd hf (by unfold scanBound at hlt; omega) ⟨.int es.size, H, I.tok _, ⟨_, rfl⟩, q⟩
theorem cr_lenA {X : Cx} : CallR X (.builtin "len") (rLenA X.K X.w) := call_len.or (call_lenD.or cr_len_set)
theorem lenS {E : En} : CallS E (rLenA E.K E.w) opLen := by
  intro r H S ds vs Q W o rl s
  unfold opLen at s
  split at s
  · obtain ⟨v, ws, rfl, h1, h2⟩ := repL_cons.mp rl
    rw [repL_nil.mp h2]
    split at s
    · rename_i n d hd
      split at s
      · rename_i m hm
        have fin := s.here o (rep_int.mpr rfl)
        unfold lenD at hm
        obtain ⟨a, q, rfl⟩ := rep_loc.mp h1
        have c := o.at_ _ a d q hd
        cases d with
        | lst xs => cases hm; obtain ⟨vs, e, l⟩ := c; exact .inl ⟨.ref a, _, rfl, .inl ⟨vs, .inl (.inl e), l.length⟩, fin⟩
        | set xs => cases hm; exact .inr (.inr ⟨a, _, _, rfl, c.1, fin⟩)
        | dic ks ds => cases hm; obtain ⟨kvs, e, rfl, l⟩ := c; exact .inr (.inl ⟨a, kvs, rfl, e, by rw [List.length_map] at fin; exact fin⟩)
        | _ => first | exact c.elim | cases hm
      · exact s.elim
    · exact s.elim
  · obtain ⟨v, ws, rfl, h1, h2⟩ := repL_cons.mp rl
    rw [repL_nil.mp h2]
    split at s
    · rename_i dd _ _ m hm
      have fin := s.here o (rep_int.mpr rfl)
      unfold lenD at hm
      cases dd with
      | lst xs => cases hm; obtain ⟨a, vs, rfl, t, l⟩ := rep_lst.mp h1; exact .inl ⟨.ref a, _, rfl, .inl ⟨vs, t.sq, l.length⟩, fin⟩
      | tup xs => cases hm; obtain ⟨a, vs, rfl, t, l⟩ := rep_tup.mp h1; exact .inl ⟨.ref a, _, rfl, .inr ⟨vs, t.sq, l.length⟩, fin⟩
      | scr ns => cases hm; obtain ⟨a, rfl, t⟩ := rep_scr.mp h1; exact .inl ⟨.ref a, _, rfl, .inl ⟨_, t.sq, by simp⟩, fin⟩
      | set xs => cases hm; obtain ⟨a, rfl, _, e, _⟩ := rep_set.mp h1; exact .inr (.inr ⟨a, _, _, rfl, e, fin⟩)
      | dic ks ds => cases hm; obtain ⟨a, kvs, rfl, _, e, rfl, l⟩ := rep_dic.mp h1; exact .inr (.inl ⟨a, kvs, rfl, e, by rw [List.length_map] at fin; exact fin⟩)
      | str z =>
        dsimp only at hm
        split at hm
        · cases hm; rw [rep_str.mp h1]; exact .inl ⟨_, _, rfl, ⟨by assumption, rfl⟩, fin⟩
        · cases hm
      | _ => cases hm
    · exact s.elim
  · exact s.elim
/-! ### in, not in -/
def flatD : D → Bool
  | .non => true
  | .bl _ => true
  | .int _ => true
  | .str _ => true
  | _ => false
def eqD : D → D → Bool
  | .non, .non => true
  | .bl a, .bl b => a == b
  | .bl a, .int b => (if a then 1 else 0) == b
  | .int a, .bl b => a == (if b then 1 else 0)
  | .int a, .int b => a == b
  | .str a, .str b => a == b
  | _, _ => false
def vOf : D → V
  | .bl b => .bl b
  | .int i => .int i
  | .str x => .str x
  | _ => .non
theorem flat_v {E : En} {r : Reg} {H : Hp} {d : D} {v : V} (rp : Rep E r H d v) (h : flatD d = true) : v = vOf d := by
  cases d with
  | non => exact rep_non.mp rp
  | bl b => exact rep_bl.mp rp
  | int i => exact rep_int.mp rp
  | str x => exact rep_str.mp rp
  | _ => cases h
theorem flat_of {d : D} (h : flatD d = true) : flatV (vOf d) = true := by cases d <;> first | rfl | cases h
theorem eqV_of {d e : D} (h : flatD d = true) (h' : flatD e = true) : eqV (vOf d) (vOf e) = eqD d e := by cases d <;> first | (cases h; done) | (cases e <;> first | (cases h'; done) | rfl)
theorem flat_vs {E : En} {r : Reg} {H : Hp} : ∀ {ds : List D} {vs : List V}, RepL E r H ds vs → ds.all flatD = true → vs = ds.map vOf ∧ vs.all flatV = true
  | [], vs, l, _ => by rw [repL_nil.mp l]; exact ⟨rfl, rfl⟩
  | d :: ds, vs, l, h => by
    rw [List.all_cons, Bool.and_eq_true] at h
    obtain ⟨v, ws, rfl, h1, h2⟩ := repL_cons.mp l
    obtain ⟨e1, e2⟩ := flat_vs h2 h.2
    rw [flat_v h1 h.1, e1, List.map_cons]
    exact ⟨rfl, by rw [List.all_cons, flat_of h.1, Bool.true_and, ← e1]; exact e2⟩
def inD (d : D) (ds : List D) : Bool := ds.any fun e => eqD e d
theorem inV_of {d : D} {ds : List D} (h : flatD d = true) (h' : ds.all flatD = true) : inV (vOf d) (ds.map vOf) = inD d ds := by
  unfold inV inD
  rw [List.any_map]
  have h2 : ∀ x ∈ ds, flatD x = true := List.all_eq_true.mp h'
  clear h'
  induction ds with
  | nil => rfl
  | cons y ys ih =>
    rw [List.any_cons, List.any_cons, ih (fun z hz => h2 z (List.mem_cons_of_mem _ hz))]
    show (eqV (vOf y) (vOf d) || _) = _
    rw [eqV_of (h2 y List.mem_cons_self) h]
/-- is x in y -/
def inS (x y : D) (S : List D) : Option Bool := match dicOf y S with
  | some (ks, ds) => (keyOf x).map fun k => (valD ks ds k).isSome
  | none => match y with
    | .str z => (match x with
      | .str a => some (!(Builtin.Str.occurrences z a 0 z.length 1).isEmpty)
      | _ => none)
    | .set xs => (match x with
      | .int k => some (decide (k ∈ xs))
      | _ => none)
    | y => (match seqOf y S with
      | some ds => if (flatD x && ds.all flatD) = true then some (inD x ds) else none
      | none => (match y with
        | .loc n => (match S[n]? with
          | some (.set xs) => (match x with
            | .int k => some (decide (k ∈ xs))
            | _ => none)
          | _ => none)
        | _ => none))
def opIn : Op2 := fun x y S => match inS x y S with
  | some b => .ok (.bl b) S
  | none => .stuck
def opNotIn : Op2 := fun x y S => match inS x y S with
  | some b => .ok (.bl (!b)) S
  | none => .stuck
def rInA (K : PySem.W.Frag) (w : World) : R2 := fun x y H Q => rIn K false x y H Q ∨ (∃ i j, x = .str i ∧ y = .str j ∧ Q (.bl (!(Builtin.Str.occurrences j i 0 j.length 1).isEmpty)) H) ∨ rSIn w x y H Q ∨ (∃ a o, y = .ref a ∧ DGet H a x o ∧ Q (.bl o.isSome) H)
def rNotInA (K : PySem.W.Frag) (w : World) : R2 := fun x y H Q => rIn K true x y H Q ∨ (∃ i j, x = .str i ∧ y = .str j ∧ Q (.bl (!(!(Builtin.Str.occurrences j i 0 j.length 1).isEmpty))) H) ∨ rSNotIn w x y H Q ∨ (∃ a o, y = .ref a ∧ DGet H a x o ∧ Q (.bl (!o.isSome)) H)
theorem op_inD {X : Cx} (hu : X.A.units + 1 < cLine) : OpR X (compareOp .In) (fun x y H Q => ∃ a o, y = .ref a ∧ DGet H a x o ∧ Q (.bl o.isSome) H) := by
  intro pins s σ H x y v u Q I rx ry h
  obtain ⟨a, o, rfl, g, q⟩ := h
  cases ry
  exact d_in hu I g rx fun s3 I3 => ⟨.bl o.isSome, H, I3, rfl, q⟩
theorem op_notinD {X : Cx} (hu : X.A.units + 1 < cLine) : OpR X (compareOp .NotIn) (fun x y H Q => ∃ a o, y = .ref a ∧ DGet H a x o ∧ Q (.bl (!o.isSome)) H) := by
  intro pins s σ H x y v u Q I rx ry h
  obtain ⟨a, o, rfl, g, q⟩ := h
  cases ry
  exact d_notIn hu I g rx fun s3 I3 => ⟨.bl (!o.isSome), H, I3, rfl, q⟩
theorem op_inA {X : Cx} {k : Nat} (hr : Room k X.A) : OpR X (compareOp .In) (rInA X.K X.w) := op_in_seq.or (op_in_str.or (or_sin.or (op_inD (by have := hr.units; omega))))
theorem op_notInA {X : Cx} {k : Nat} (hr : Room k X.A) : OpR X (compareOp .NotIn) (rNotInA X.K X.w) := op_notIn_seq.or (op_notIn_str.or (or_snotin.or (op_notinD (by have := hr.units; omega))))
theorem inS_some {E : En} {r : Reg} {H : Hp} {S : List D} {x y : D} {v u : V} {b : Bool} (h : inS x y S = some b) (o : SOk E r H S) (rx : Rep E r H x v) (ry : Rep E r H y u) :
    (∃ p xs, u = .ref p ∧ (SqL E.K H p xs ∨ SqT E.K H p xs) ∧ flatV v = true ∧ xs.all flatV = true ∧ inV v xs = b) ∨ (∃ i j, v = .str i ∧ u = .str j ∧ b = (!(Builtin.Str.occurrences j i 0 j.length 1).isEmpty)) ∨
    (∃ k a T n, v = V.int k ∧ u = V.ref a ∧ H a = some (SetO E.w a T n) ∧ T k = b) ∨ (∃ a o, u = .ref a ∧ DGet H a v o ∧ o.isSome = b) := by
  unfold inS at h
  split at h
  · rename_i ks ds hd
    cases hk : keyOf x with
    | none => rw [hk] at h; cases h
    | some k =>
      rw [hk] at h; cases h
      obtain ⟨a, kvs, rfl, e, rfl, l⟩ := dicOf_some hd o ry
      have := keyOf_v hk rx
      subst this
      refine .inr (.inr (.inr ⟨a, _, rfl, DGet.k e, ?_⟩))
      show _ = (valD (kvs.map (·.1)) ds k).isSome
      cases hv : valD (kvs.map (·.1)) ds k with
      | none => rw [(valD_v l).2 hv]; rfl
      | some d => obtain ⟨v, ev, _⟩ := (valD_v l).1 d hv; rw [ev]; rfl
  · split at h
    · split at h
      · cases h; exact .inr (.inl ⟨_, _, rep_str.mp rx, rep_str.mp ry, rfl⟩)
      · cases h
    · split at h
      · cases h
        obtain ⟨a, rfl, _, e, _⟩ := rep_set.mp ry
        exact .inr (.inr (.inl ⟨_, a, _, _, rep_int.mp rx, rfl, e, rfl⟩))
      · cases h
    · split at h
      · rename_i ds hs
        split at h
        · rename_i hf
          cases h
          rw [Bool.and_eq_true] at hf
          obtain ⟨a, vs, rfl, t, l⟩ := seqOf_some hs o ry
          obtain ⟨e1, e2⟩ := flat_vs l hf.2
          have e3 := flat_v rx hf.1
          subst e3
          exact .inl ⟨a, vs, rfl, t, flat_of hf.1, e2, by rw [e1]; exact inV_of hf.1 hf.2⟩
        · cases h
      · split at h
        · split at h
          · split at h
            · cases h
              rename_i hn _ _
              obtain ⟨a, q, rfl⟩ := rep_loc.mp ry
              have c := o.at_ _ a _ q hn
              exact .inr (.inr (.inl ⟨_, a, _, _, rep_int.mp rx, rfl, c.1, rfl⟩))
            · cases h
          · cases h
        · cases h
theorem inA_S {E : En} : OpS E (rInA E.K E.w) opIn := by
  intro r H S d1 d2 v1 v2 Q W o r1 r2 s
  unfold opIn at s
  split at s
  · rename_i b hb
    have fin := s.here o (rep_bl.mpr rfl)
    rcases inS_some hb o r1 r2 with ⟨p, xs, rfl, t, f1, f2, e⟩ | ⟨i, j, rfl, rfl, rfl⟩ | ⟨k, a, T, n, rfl, rfl, e, rfl⟩ | ⟨a, oo, rfl, g, rfl⟩
    · exact .inl ⟨p, xs, rfl, t, f1, f2, by rw [if_neg (by decide), e]; exact fin⟩
    · exact .inr (.inl ⟨i, j, rfl, rfl, fin⟩)
    · exact .inr (.inr (.inl ⟨k, a, T, n, rfl, rfl, e, fin⟩))
    · exact .inr (.inr (.inr ⟨a, oo, rfl, g, fin⟩))
  · exact s.elim
theorem notInA_S {E : En} : OpS E (rNotInA E.K E.w) opNotIn := by
  intro r H S d1 d2 v1 v2 Q W o r1 r2 s
  unfold opNotIn at s
  split at s
  · rename_i b hb
    have fin := s.here o (rep_bl.mpr rfl)
    rcases inS_some hb o r1 r2 with ⟨p, xs, rfl, t, f1, f2, e⟩ | ⟨i, j, rfl, rfl, rfl⟩ | ⟨k, a, T, n, rfl, rfl, e, rfl⟩ | ⟨a, oo, rfl, g, rfl⟩
    · exact .inl ⟨p, xs, rfl, t, f1, f2, by rw [if_pos rfl, e]; exact fin⟩
    · exact .inr (.inl ⟨i, j, rfl, rfl, fin⟩)
    · exact .inr (.inr (.inl ⟨k, a, T, n, rfl, rfl, e, fin⟩))
    · exact .inr (.inr (.inr ⟨a, oo, rfl, g, fin⟩))
  · exact s.elim
end Dl

set_option Elab.async false
set_option linter.all false
set_option maxRecDepth 100000
set_option maxHeartbeats 4000000
/-! Dl7: methods, stores into subscripts, slices, conversions, sums. -/
namespace Dl
open PySem PySem.Spec PyProof.Rows L2

theorem Sat.toS {E : En} {r : Reg} {H : Hp} {Dn : Ends} {W : WX} {x : R D} {ds : DS} {σ : L2.St} {k : D → List D → RS} {Q : VK} (p : SRep E r H ds σ) (h : SatS E r H (x.toS ds k) Dn W)
    (hk : ∀ d S v H' r', Step r H r' H' → SOk E r' H' S → Rep E r' H' d v → SatS E r' H' (k d S) Dn W → Q v H') : Sat E r H x Q (fun c dx H' => W c dx σ H') := by
  cases x with
  | ok d S => exact fun v H2 r2 s2 o rp => hk d S v H2 r2 s2 o rp (SatS.mono h s2)
  | exc c ns fs S => exact fun dx H2 r2 s2 o x => h dx σ H2 r2 s2 o x (p.mono s2)
  | stuck => exact h
/-! ### methods of built-in types -/
def eMt (chk : D → List D → Bool) (op : OpM) (f : FE) (g : FA) : FE := fun ds S => (f ds S).bind fun x S1 => if chk x S1 = true then (g ds S1).bind fun ls S2 => op x ls S2 else .stuck
def MtS (E : En) (rm : V → List V → Hp → VK → Prop) (op : OpM) : Prop := ∀ r H S x v ls vs Q W, SOk E r H S → Rep E r H x v → RepL E r H ls vs → Sat E r H (op x ls S) Q W → rm v vs H Q
def ChkS (E : En) (T : String) (chk : D → List D → Bool) : Prop := ∀ r H S x v, SOk E r H S → Rep E r H x v → chk x S = true → tyV E.K T v H
section
variable {E : En} {X : Cx} {W : WX} {o e : Expr} {es : List Expr} {f : FE} {g : FA} {name : Str} {apos cpos : Pos} {T id : String} {rm : V → List V → Hp → VK → Prop} {op : OpM} {chk : D → List D → Bool}
theorem tD_bm (hm : MtS E rm op) (hc : ChkS E T chk) (σ : L2.St) (H : Hp) (Q : VK) (q : tD E W (eMt chk op f g) σ H Q) : tBM E.K T rm (tD E W f) (tDA E W g) σ H Q := by
  refine tD_step q fun r ds S x v H1 p o rp s1 => ?_
  split at s1
  · refine ⟨hc _ _ _ _ _ o rp (by assumption), r, ds, S, p, o, ?_⟩
    cases hg : g ds S with
    | ok ls S2 => rw [hg] at s1; exact fun vs H2 r2 st o2 rl => hm _ _ _ _ _ _ _ _ _ o2 (rp.mono st) rl (Sat.mono s1 st)
    | exc c ns fs S2 => rw [hg] at s1; exact s1
    | stuck => rw [hg] at s1; exact s1
  · exact s1.elim
theorem de_bm (hK : E.K = X.K) (pa : PlainAttrs T) (slot : Slot T name id) (hty : typeOf (.builtin id) = pure (.type "method_descriptor")) (hr : MtR X id rm) (hm : MtS E rm op) (hc : ChkS E T chk) (ho : DE E X W o f) (ha : DA E X W (e :: es) g)
    (hbase : attributeBase o name X.env (eval o X.env) = eval o X.env := by rfl)
    (hfew : ((backTo cpos (starEach (e :: es) X.env)).all (fun x => !x.1) && (backToKw cpos (keywordEach [] X.env)).all (fun x => x.1.isSome)
      && decide ((e :: es).length + ([] : List Keyword).length + (if ([] : List Keyword).isEmpty then 0 else 1) < 30)) = true := by rfl)
    (hline : (apos.endLine == cpos.line) = true := by rfl) (hs : starEach (e :: es) X.env = (false, eval e X.env) :: starEach es X.env := by rfl) (hplain : (backTo cpos (starEach es X.env)).any (·.1) = false := by rfl) :
    DE E X W (.Call (.Attribute o name apos) (e :: es) [] cpos) (eMt chk op f g) :=
  (pe_bm pa slot hty hr ho ha hbase hfew hline hs hplain).imp (hK ▸ tD_bm hm hc)
theorem de_bm0 (hK : E.K = X.K) (pa : PlainAttrs T) (slot : Slot T name id) (hty : typeOf (.builtin id) = pure (.type "method_descriptor")) (hr : MtR X id rm) (hm : MtS E rm op) (hc : ChkS E T chk) (ho : DE E X W o f)
    (hbase : attributeBase o name X.env (eval o X.env) = eval o X.env := by rfl) (hline : (apos.endLine == cpos.line) = true := by rfl) : DE E X W (.Call (.Attribute o name apos) [] [] cpos) (eMt chk op f aNil) :=
  (pe_bm0 pa slot hty hr ho hbase hline).imp fun σ H Q q => by
    rw [← hK]
    refine tD_step q fun r ds S x v H1 p o rp s1 => ?_
    split at s1
    · exact ⟨hc _ _ _ _ _ o rp (by assumption), hm _ _ _ _ _ _ _ _ _ o rp (repL_nil.mpr rfl) s1⟩
    · exact s1.elim
end
def isLst (d : D) (S : List D) : Bool := (lstOf d S).isSome
theorem chk_lst {E : En} : ChkS E "list" isLst := by
  intro r H S x v o rp h
  unfold isLst at h
  obtain ⟨xs, hx⟩ := Option.isSome_iff_exists.mp h
  obtain ⟨a, vs, rfl, e, _⟩ := lstOf_some hx o rp
  exact .inl ⟨rfl, vs, .inl (.inl e)⟩
def isStr (d : D) (_ : List D) : Bool := match d with
  | .str _ => true
  | _ => false
theorem chk_str {E : En} : ChkS E "str" isStr := by
  intro r H S x v o rp h
  unfold isStr at h
  split at h
  · rw [rep_str.mp rp]; rfl
  · cases h
def opAppend : OpM := fun x ls S => match x, ls with
  | .loc n, [d] => (match S[n]? with
    | some (.lst xs) => if xs.length < sizeLine then .ok .non (S.set n (.lst (xs ++ [d]))) else .stuck
    | _ => .stuck)
  | _, _ => .stuck
theorem appendS {E : En} : MtS E rAppend opAppend := by
  intro r H S x v ls vs Q W o rx rl s
  unfold opAppend at s
  split at s
  · split at s
    · split at s
      · rename_i n d _ xs hn hl
        obtain ⟨a, ws, rfl, ha, e, l⟩ := loc_lst o hn rx
        obtain ⟨u, us, rfl, h1, h2⟩ := repL_cons.mp rl
        rw [repL_nil.mp h2]
        obtain ⟨st, o'⟩ := put_lst o ha e (l.append (.one h1))
        exact ⟨a, ws, u, rfl, rfl, e, by rw [← l.length]; exact hl, s .non _ r st o' (rep_non.mpr rfl)⟩
      · exact s.elim
    · exact s.elim
  · exact s.elim
/-- pop() and pop(i) -/
def opPop : OpM := fun x ls S => match x with
  | .loc n => (match S[n]? with
    | some (.lst xs) => (match ls with
      | [] => (match xs[xs.length - 1]? with
        | some d => .ok d (S.set n (.lst xs.dropLast))
        | none => .stuck)
      | [.int i] => if (decide (-(2 ^ 63) ≤ i) && decide (i < 2 ^ 63)) = true then (match seqIndex? i xs.length with
        | some k => (match xs[k]? with
          | some d => .ok d (S.set n (.lst (xs.eraseIdx k)))
          | none => .stuck)
        | none => .stuck) else .stuck
      | _ => .stuck)
    | _ => .stuck)
  | _ => .stuck
def rPopA : V → List V → Hp → VK → Prop := fun x vs H Q => rPop x vs H Q ∨ rPopAt x vs H Q
theorem mt_popA {X : Cx} : MtR X "list.pop" rPopA := MtR.or mt_pop mt_popAt
theorem popS {E : En} : MtS E rPopA opPop := by
  intro r H S x v ls vs Q W o rx rl s
  unfold opPop at s
  split at s
  · split at s
    · rename_i n _ xs hn
      obtain ⟨a, ws, rfl, ha, e, l⟩ := loc_lst o hn rx
      split at s
      · split at s
        · rename_i d hd
          obtain ⟨u, hu, ru⟩ := l.get hd
          obtain ⟨st, o'⟩ := put_lst o ha e l.dropLast
          refine .inl ⟨a, ws, u, rfl, repL_nil.mp rl, e, by rw [← l.length]; exact hu, s u _ r st o' (ru.mono st)⟩
        · exact s.elim
      · split at s
        · split at s
          · split at s
            · rename_i hb _ k hk _ d hd
              rw [Bool.and_eq_true, decide_eq_true_eq, decide_eq_true_eq] at hb
              obtain ⟨u, us, rfl, h1, h2⟩ := repL_cons.mp rl
              rw [repL_nil.mp h2, rep_int.mp h1]
              obtain ⟨z, hz, rz⟩ := l.get hd
              obtain ⟨st, o'⟩ := put_lst o ha e (l.eraseIdx k)
              exact .inr ⟨a, ws, _, k, z, rfl, rfl, e, hb.1, hb.2, by rw [← l.length]; exact hk, hz, s z _ r st o' (rz.mono st)⟩
            · exact s.elim
          · exact s.elim
        · exact s.elim
      · exact s.elim
    · exact s.elim
  · exact s.elim
section
variable {E : En} {X : Cx} {W : WX} {o e : Expr} {es : List Expr} {f fk fv : FE} {g : FA} {apos cpos : Pos}
/-- found.add(k) of a set of the store -/
def isSet (d : D) (S : List D) : Bool := match d with
  | .loc n => (match S[n]? with
    | some (.set _) => true
    | _ => false)
  | _ => false
def opSAdd : OpM := fun x ls S => match x, ls with
  | .loc n, [.int k] => (match S[n]? with
    | some (.set xs) => if xs.length + 1 < scanBound then .ok .non (S.set n (.set (if k ∈ xs then xs else xs ++ [k]))) else .stuck
    | _ => .stuck)
  | _, _ => .stuck
theorem saddS : MtS E (rSAdd E.w) opSAdd := by
  intro r H S x v ls vs Q W o rx rl s
  unfold opSAdd at s
  split at s
  · split at s
    · split at s
      · rename_i n k _ xs hn hl
        obtain ⟨a, ha, rfl⟩ := rep_loc.mp rx
        obtain ⟨e, nd⟩ := o.at_ _ a _ ha hn
        obtain ⟨u, us, rfl, h1, h2⟩ := repL_cons.mp rl
        rw [repL_nil.mp h2, rep_int.mp h1]
        have nf : ∀ x u, H a ≠ some (.frz x u) := fun x u h => by rw [e] at h; cases h
        have ef : (fun j => decide (j ∈ xs) || decide (j = k)) = fun j => decide (j ∈ (if k ∈ xs then xs else xs ++ [k])) := by
          funext j
          split
          · rename_i hk
            by_cases hj : j = k
            · subst hj; simp [hk]
            · simp [hj]
          · simp
        have en : (if decide (k ∈ xs) = true then xs.length else xs.length + 1) = (if k ∈ xs then xs else xs ++ [k]).length := by
          by_cases hk : k ∈ xs <;> simp [hk]
        refine ⟨a, k, _, _, rfl, rfl, e, hl, ?_⟩
        rw [ef, en]
        refine s .non _ r (Step.put (List.mem_of_getElem? ha) nf) (o.put ha nf ⟨upd_same, ?_⟩) (rep_non.mpr rfl)
        split
        · exact nd
        · rename_i hk
          rw [List.nodup_append]
          exact ⟨nd, by simp, fun p hp q hq => by rw [List.mem_singleton.mp hq]; rintro rfl; exact hk hp⟩
      · exact s.elim
    · exact s.elim
  · exact s.elim
theorem de_sadd (hw : E.w = X.w) (ho : DE E X W o f) (ha : DA E X W (e :: es) g)
    (hbase : attributeBase o "add" X.env (eval o X.env) = eval o X.env := by rfl)
    (hfew : ((backTo cpos (starEach (e :: es) X.env)).all (fun x => !x.1) && (backToKw cpos (keywordEach [] X.env)).all (fun x => x.1.isSome)
      && decide ((e :: es).length + ([] : List Keyword).length + (if ([] : List Keyword).isEmpty then 0 else 1) < 30)) = true := by rfl)
    (hline : (apos.endLine == cpos.line) = true := by rfl) (hs : starEach (e :: es) X.env = (false, eval e X.env) :: starEach es X.env := by rfl) (hplain : (backTo cpos (starEach es X.env)).any (·.1) = false := by rfl) :
    DE E X W (.Call (.Attribute o "add" apos) (e :: es) [] cpos) (eMt isSet opSAdd f g) :=
  (pe_sadd ho ha hbase hfew hline hs hplain).imp fun σ H Q q => by
    rw [← hw]
    refine tD_step q fun r ds S x v H1 p o rp s1 => ?_
    split at s1
    · rename_i hset
      refine ⟨?_, r, ds, S, p, o, ?_⟩
      · unfold isSet at hset
        split at hset
        · split at hset
          · rename_i hn
            obtain ⟨a, ha, rfl⟩ := rep_loc.mp rp
            exact ⟨a, _, _, rfl, (o.at_ _ a _ ha hn).1⟩
          · cases hset
        · cases hset
      · cases hg : g ds S with
        | ok ls S2 => rw [hg] at s1; exact fun vs H2 r2 st o2 rl => saddS _ _ _ _ _ _ _ _ _ o2 (rp.mono st) rl (Sat.mono s1 st)
        | exc c ns fs S2 => rw [hg] at s1; exact s1
        | stuck => rw [hg] at s1; exact s1
    · exact s1.elim
/-- d.setdefault(k, z) -/
def opSetd (x k z : D) (S : List D) : R D := match x with
  | .loc n => (match S[n]? with
    | some (.dic ks ds) => (match keyOf k with
      | some k => if ks.length < sizeLine then (match valD ks ds k with
        | some d => .ok d S
        | none => .ok z (S.set n (.dic (putDk ks k) (putDv ks ds k z)))) else .stuck
      | none => .stuck)
    | _ => .stuck)
  | _ => .stuck
def isDic (d : D) (S : List D) : Bool := (dicOf d S).isSome
def eSetd (f fk fv : FE) : FE := fun ds S => (f ds S).bind fun x S1 => if isDic x S1 = true then (fk ds S1).bind fun k S2 => (fv ds S2).bind fun z S3 => opSetd x k z S3 else .stuck
theorem isDic_v {r : Reg} {H : Hp} {S : List D} {d : D} {v : V} (h : isDic d S = true) (o : SOk E r H S) (rp : Rep E r H d v) : ∃ a kvs, v = .ref a ∧ H a = some (.dK kvs) := by
  unfold isDic at h
  obtain ⟨⟨ks, ds⟩, hx⟩ := Option.isSome_iff_exists.mp h
  obtain ⟨a, kvs, rfl, e, _⟩ := dicOf_some hx o rp
  exact ⟨a, kvs, rfl, e⟩
theorem de_setd {e1 e2 : Expr} (ho : DE E X W o f) (hk : DE E X W e1 fk) (hv : DE E X W e2 fv) (m : M2 X o "setdefault" apos e1 e2 cpos) : DE E X W (.Call (.Attribute o "setdefault" apos) [e1, e2] [] cpos) (eSetd f fk fv) :=
  (pe_dsetd ho hk hv m).imp fun σ H Q q => by
    refine tD_step q fun r ds S x v H1 p o rp s1 => ?_
    split at s1
    · rename_i hd
      obtain ⟨a, kvs, rfl, e⟩ := isDic_v hd o rp
      refine ⟨a, rfl, .inl ⟨kvs, .inl e⟩, r, ds, S, p, o, Sat.bind s1 fun k S2 vk H2 r2 _ st2 o2 rk s2 => ⟨r2, ds, S2, p.mono st2, o2, Sat.bind s2 fun z S3 vz H3 r3 _ st3 o3 rz s3 => ?_⟩⟩
      have rx := (rp.mono st2).mono st3
      have rk3 := rk.mono st3
      unfold opSetd at s3
      split at s3
      · split at s3
        · split at s3
          · split at s3
            · rename_i n _ ks dds hn _ kk hkk hl
              obtain ⟨a', kvs', ea, ha, e3, rfl, l⟩ := loc_dic o3 hn rx
              cases ea
              have := keyOf_v hkk rk3
              subst this
              refine ⟨kvs', kk, e3, rfl, by rw [List.length_map] at hl; exact hl, fun v hv => ?_, fun hv => ?_⟩
              · cases hd' : valD (kvs'.map (·.1)) dds kk with
                | none => rw [(valD_v l).2 hd'] at hv; cases hv
                | some d =>
                  obtain ⟨u, eu, ru⟩ := (valD_v l).1 d hd'
                  rw [eu] at hv; cases hv
                  rw [hd'] at s3
                  exact s3.here o3 ru
              · cases hd' : valD (kvs'.map (·.1)) dds kk with
                | none =>
                  rw [hd'] at s3
                  obtain ⟨st, o'⟩ := put_dic o3 ha e3 (putK_eq kvs' kk vz) (putD_v rz l)
                  exact s3 vz _ r3 st o' (rz.mono st)
                | some d =>
                  obtain ⟨u, eu, ru⟩ := (valD_v l).1 d hd'
                  rw [eu] at hv; cases hv
            · exact s3.elim
          · exact s3.elim
        · exact s3.elim
      · exact s3.elim
    · exact s1.elim
end
/-! ### x[i] = e -/
def putS (x i d : D) (S : List D) : Option (List D) := match x with
  | .loc n => (match S[n]? with
    | some (.lst xs) => (match i with
      | .int k => (match ixN xs.length k with
        | some j => some (S.set n (.lst (xs.set j d)))
        | none => none)
      | _ => none)
    | some (.dic ks ds) => (match keyOf i with
      | some k => if ks.length < sizeLine then some (S.set n (.dic (putDk ks k) (putDv ks ds k d))) else none
      | none => none)
    | _ => none)
  | _ => none
def sPut (fe fo fi : FE) : FS := fun ds S => (fe ds S).toS ds fun d S1 => (fo ds S1).toS ds fun x S2 => (fi ds S2).toS ds fun i S3 => match putS x i d S3 with
  | some S4 => .nx ds S4
  | none => .stuck
def rSetA : TSet := fun o i v H Q => rSetL o i v H Q ∨ ∃ a H', o = .ref a ∧ DPut H a i v H' ∧ Q H'
theorem set_any {X : Cx} (hu : X.A.units + 1 < cLine) : PSet X rSetA := by
  intro pins s σ H o i v ov iv u Q I ro ri rv h
  rcases h with h | ⟨a, H', rfl, g, q⟩
  · exact set_list pins s σ H o i v ov iv u Q I ro ri rv h
  · cases ro
    exact d_setItem hu I g ri rv fun s' I' => ⟨H', I', q⟩
section
variable {E : En} {X : Cx} {W : WX} {e o i : Expr} {fe fo fi : FE} {pos tpos : Pos} {k : Nat}
theorem putS_v {r : Reg} {H : Hp} {S S' : List D} {x y d : D} {vx vy vd : V} {Q : Hp → Prop} (h : putS x y d S = some S') (o : SOk E r H S) (rx : Rep E r H x vx) (ry : Rep E r H y vy) (rd : Rep E r H d vd)
    (k : ∀ H', Step r H r H' → SOk E r H' S' → Q H') : rSetA vx vy vd H Q := by
  unfold putS at h
  split at h
  · split at h
    · split at h
      · split at h
        · rename_i n _ xs hn _ kk _ j hj
          cases h
          obtain ⟨a, vs, rfl, ha, e, l⟩ := loc_lst o hn rx
          obtain ⟨st, o'⟩ := put_lst o ha e (l.set rd j)
          exact .inl ⟨a, vs, _, j, rfl, rep_int.mp ry, e, by rw [← l.length]; exact hj, k _ st o'⟩
        · cases h
      · cases h
    · split at h
      · split at h
        · rename_i n _ ks ds hn _ kk hk hl
          cases h
          obtain ⟨a, kvs, rfl, ha, e, rfl, l⟩ := loc_dic o hn rx
          have := keyOf_v hk ry
          subst this
          obtain ⟨st, o'⟩ := put_dic o ha e (putK_eq kvs kk vd) (putD_v rd l)
          exact .inr ⟨a, _, rfl, DPut.k e (by rw [List.length_map] at hl; exact hl), k _ st o'⟩
        · cases h
      · cases h
    · cases h
  · cases h
theorem st_put (hr : Room k X.A) (he : DE E X W e fe) (ho : DE E X W o fo) (hi : DE E X W i fi) (hs : swapsWithSole [.Subscript o i tpos] e pos.line X.env = pure false := by rfl) (hw : swappedStores [.Subscript o i tpos] e X.env = pure none := by rfl)
    (h1 : (assignEach [.Subscript o i tpos] X.env).map (·.2) = [assign (.Subscript o i tpos) X.env] := by rfl)
    (ha : ∀ v, assign (.Subscript o i tpos) X.env v = (do
      let ov ← holding [v] (eval o X.env)
      let iv ← holding [v, ov] (eval i X.env)
      standAt tpos
      holding [v, ov, iv] (setItem ov iv v)
      release [v, ov, iv] []) := by intro _; rfl) : DSt E X W (.Assign [.Subscript o i tpos] e pos) (sPut fe fo fi) :=
  (ps_asg he (pg_sub ho hi (set_any (by have := hr.units; omega)) ha) hs hw h1).imp fun Dn σ H ⟨r, ds, S, p, oo, s⟩ => by
    refine ⟨r, ds, S, p, oo, Sat.toS p s fun d S1 vd H1 r1 st1 o1 rd s1 => ⟨r1, ds, S1, p.mono st1, o1, Sat.toS (p.mono st1) s1 fun x S2 vx H2 r2 st2 o2 rx s2 => ⟨r2, ds, S2, (p.mono st1).mono st2, o2, Sat.toS ((p.mono st1).mono st2) s2 fun y S3 vy H3 r3 st3 o3 ry s3 => ?_⟩⟩⟩
    cases hp : putS x y d S3 with
    | none => rw [hp] at s3; exact s3.elim
    | some S4 =>
      rw [hp] at s3
      exact putS_v hp o3 (rx.mono st3) ry ((rd.mono st2).mono st3) fun H4 st4 o4 => s3 σ H4 r3 st4 o4 ((((p.mono st1).mono st2).mono st3).mono st4)
end
end Dl

set_option Elab.async false
set_option linter.all false
set_option maxRecDepth 100000
set_option maxHeartbeats 4000000
/-! Dl8: slices, conversions, sums and bounds, isinstance. -/
namespace Dl
open PySem PySem.Spec PyProof.Rows L2

/-! ### slices -/
def PV (v : V) (o : Option Int) : Prop := (v = .non ∧ o = none) ∨ ∃ i, v = .int i ∧ o = some i
abbrev DPO (E : En) (X : Cx) (W : WX) (e : Option Expr) (f : FE) : Prop := PO X e (fun σ H Q => tD E W f σ H fun v H1 => ∃ o, PV v o ∧ Q o H1)
def ePart (f : FE) : FE := fun ds S => (f ds S).bind fun d S1 => match d with
  | .int i => .ok (.int i) S1
  | _ => .stuck
def partD : D → Option (Option Int)
  | .non => some none
  | .int i => some (some i)
  | _ => none
def cutD (xs : List D) (lo hi : Option Int) : List D := (xs.drop (HT.sIx xs.length 0 lo)).take (HT.sIx xs.length xs.length hi - HT.sIx xs.length 0 lo)
def lstR (d : D) (S : List D) : Option (List D) := match d with
  | .scr ns => some (ns.map .int)
  | d => lstOf d S
def opSl (x : D) (lo hi : Option Int) (S : List D) : R D := match x with
  | .tup xs => .ok (.tup (cutD xs lo hi)) S
  | x => (match lstR x S with
    | some xs => .ok (.lst (cutD xs lo hi)) S
    | none => .stuck)
def R.part (x : R D) (k : Option Int → List D → R D) : R D := x.bind fun l S => match partD l with
  | some lo => k lo S
  | none => .stuck
def eSl (f fl fh : FE) : FE := fun ds S => (f ds S).bind fun x S1 => (fl ds S1).part fun lo S2 => (fh ds S2).part fun hi S3 => opSl x lo hi S3
section
variable {E : En} {r : Reg} {H : Hp} {S : List D}
theorem lstR_some {d : D} {v : V} {xs : List D} (h : lstR d S = some xs) (o : SOk E r H S) (rp : Rep E r H d v) : ∃ a vs, v = .ref a ∧ SqL E.K H a vs ∧ RepL E r H xs vs := by
  unfold lstR at h
  split at h
  · cases h
    obtain ⟨a, rfl, t⟩ := rep_scr.mp rp
    exact ⟨a, _, rfl, t.sq, repL_ints.mpr rfl⟩
  · obtain ⟨a, vs, rfl, e, l⟩ := lstOf_some h o rp
    exact ⟨a, vs, rfl, .inl (.inl e), l⟩
theorem cut_v {ds : List D} {vs : List V} (l : RepL E r H ds vs) (lo hi : Option Int) : RepL E r H (cutD ds lo hi) (cutV vs lo hi) := by
  unfold cutD cutV
  rw [l.length]
  exact (l.drop _).take _
theorem partD_v {d : D} {v : V} {o o' : Option Int} (h : partD d = some o') (rp : Rep E r H d v) (p : PV v o) : o' = o := by
  unfold partD at h
  split at h
  · cases h
    rcases p with ⟨_, e⟩ | ⟨i, e, _⟩
    · exact e.symm
    · rw [rep_non.mp rp] at e; cases e
  · cases h
    rcases p with ⟨e, _⟩ | ⟨i, e, e2⟩
    · rw [rep_int.mp rp] at e; cases e
    · rw [rep_int.mp rp] at e; cases e; exact e2.symm
  · cases h
theorem partD_ex {d : D} {v : V} {o' : Option Int} (h : partD d = some o') (rp : Rep E r H d v) : PV v o' := by
  unfold partD at h
  split at h
  · cases h; exact .inl ⟨rep_non.mp rp, rfl⟩
  · cases h; exact .inr ⟨_, rep_int.mp rp, rfl⟩
  · cases h
end
section
variable {E : En} {X : Cx} {W : WX} {e : Expr} {f fl fh : FE} {lo hi : Option Expr} {p2 pos : Pos}
theorem dpo_none : DPO E X W none (eC .non) := ⟨fun pins s σ H Q I q => (po_none (X := X)).run pins s σ H Q I (by
  obtain ⟨r, ds, S, p, o, s1⟩ := q
  obtain ⟨o', pv, q⟩ := s1.here (v := .non) o (rep_non.mpr rfl)
  rcases pv with ⟨_, rfl⟩ | ⟨i, e, _⟩
  · exact q
  · cases e)⟩
theorem dpo_some (h : DE E X W e f) : DPO E X W (some e) (ePart f) := ⟨fun pins s σ H Q I q => (po_some h).run pins s σ H Q I (tD_step (k := fun _ d S1 => match d with
  | .int i => .ok (.int i) S1
  | _ => .stuck) q fun r ds S d v H1 p o rp s1 => by
    cases d with
    | int i =>
      obtain ⟨o', pv, q⟩ := s1.here o rp
      rw [rep_int.mp rp] at pv ⊢
      rcases pv with ⟨e, _⟩ | ⟨i', e, rfl⟩
      · cases e
      · exact ⟨i', e, q⟩
    | _ => exact s1.elim)⟩
def rSl2 (K : PySem.W.Frag) : V → Option Int → Option Int → Hp → VK → Prop := fun x lo hi H Q => rSlA K x lo hi H Q ∨ rSlL K x lo hi H Q
theorem de_sl (hK : E.K = X.K) (he : DE E X W e f) (hl : DPO E X W lo fl) (hh : DPO E X W hi fh) : DE E X W (.Subscript e (.Slice lo hi none p2) pos) (eSl f fl fh) :=
  (pe_slice (r := rSl2 X.K) (sl_tupA.or sl_list) he hl hh).imp fun σ H Q q => by
    rw [← hK]
    refine tD_step q fun r ds S x vx H1 p o rx s1 => ⟨r, ds, S, p, o, Sat.bind s1 fun l S2 vl H2 r2 _ st2 o2 rl s2 => ?_⟩
    cases hpl : partD l with
    | none => rw [hpl] at s2; exact s2.elim
    | some lo' =>
      rw [hpl] at s2
      refine ⟨lo', partD_ex hpl rl, r2, ds, S2, p.mono st2, o2, Sat.bind s2 fun h S3 vh H3 r3 _ st3 o3 rh s3 => ?_⟩
      cases hph : partD h with
      | none => rw [hph] at s3; exact s3.elim
      | some hi' =>
        rw [hph] at s3
        refine ⟨hi', partD_ex hph rh, ?_⟩
        have rx3 := (rx.mono st2).mono st3
        unfold opSl at s3
        dsimp only at s3
        split at s3
        · rename_i xs
          obtain ⟨a, vs, rfl, t, l⟩ := rep_tup.mp rx3
          refine .inl ⟨a, vs, rfl, t.sq, fun hw => ?_, fun _ q hq => new_tup o3 (cut_v l lo' hi') s3 hq⟩
          refine s3.here o3 ?_
          have e : cutD xs lo' hi' = xs := by
            unfold cutD
            rw [l.length, hw.1, hw.2, List.drop_zero, Nat.sub_zero, ← l.length, List.take_length]
          rw [e]
          exact rx3
        · split at s3
          · obtain ⟨a, vs, rfl, t, l⟩ := lstR_some (by assumption) o3 rx3
            exact .inr ⟨a, vs, rfl, t, fun q hq => new_lst o3 (cut_v l lo' hi') s3 hq⟩
          · exact s3.elim
end
/-! ### xs[::-1] of a list -/
def opRevL : D → List D → R D := fun x S => match lstR x S with
  | some xs => .ok (.lst xs.reverse) S
  | none => .stuck
def eThen (op : Op1) (f : FE) : FE := fun ds S => (f ds S).bind fun x S1 => op x S1
section
variable {E : En} {X : Cx} {W : WX} {e a b : Expr} {es : List Expr} {f : FE} {g : FA} {pos p p1 p2 p3 : Pos} {k : Nat}
theorem de_revL (hK : E.K = X.K) (he : DE E X W e f) : DE E X W (.Subscript e (.Slice none none (some (.UnaryOp .USub (.Constant (.int 1) k p1) p2)) p3) pos) (eThen opRevL f) :=
  (pe_revL he).imp fun σ H Q q => tD_step q fun r ds S d v H1 p o rp s1 => by
    unfold opRevL at s1
    split at s1
    · obtain ⟨a, vs, rfl, t, l⟩ := lstR_some (by assumption) o rp
      rw [← hK]
      exact ⟨a, vs, rfl, t, fun q hq => new_lst o l.reverse s1 hq⟩
    · exact s1.elim
/-! ### tuple(x), list(x) -/
def opTup : Op1 := fun x S => match x with
  | .tup xs => .ok (.tup xs) S
  | x => (match lstR x S with
    | some xs => .ok (.tup xs) S
    | none => .stuck)
theorem de_tupleOf (hK : E.K = X.K) (hg : Gl X "tuple") (hm : X.mg "tuple" = none) (ha : DE E X W a f) (na : starEach [a] X.env = (false, eval a X.env) :: starEach [] X.env := by rfl) : DE E X W (.Call (.Name "tuple" p) [a] [] pos) (eThen opTup f) :=
  (pe_tupleOf hg hm ha na).imp fun σ H Q q => tD_step q fun r ds S d v H1 p o rp s1 => by
    rw [← hK]
    unfold opTup at s1
    split at s1
    · obtain ⟨a, vs, rfl, t, l⟩ := rep_tup.mp rp
      exact .inr ⟨a, vs, rfl, t.sq, s1.here o rp⟩
    · split at s1
      · obtain ⟨a, vs, rfl, t, l⟩ := lstR_some (by assumption) o rp
        exact .inl ⟨a, vs, rfl, t, fun q hq => new_tup o l s1 hq⟩
      · exact s1.elim
def seqR (d : D) (S : List D) : Option (List D) := match d with
  | .tup xs => some xs
  | d => lstR d S
theorem seqR_some {r : Reg} {H : Hp} {S : List D} {d : D} {v : V} {xs : List D} (h : seqR d S = some xs) (o : SOk E r H S) (rp : Rep E r H d v) : ∃ a vs, v = .ref a ∧ (SqL E.K H a vs ∨ SqT E.K H a vs) ∧ RepL E r H xs vs := by
  unfold seqR at h
  split at h
  · cases h
    obtain ⟨a, vs, rfl, t, l⟩ := rep_tup.mp rp
    exact ⟨a, vs, rfl, .inr t.sq, l⟩
  · obtain ⟨a, vs, rfl, t, l⟩ := lstR_some h o rp
    exact ⟨a, vs, rfl, .inl t, l⟩
def rListA (K : PySem.W.Frag) : List V → Hp → VK → Prop := fun xs H Q => ∃ p ys, xs = [.ref p] ∧ (SqL K H p ys ∨ SqT K H p ys) ∧ ∀ l, H l = none → Q (.ref l) (upd H l (.lst ys))
/-- list(x): frozen, of the store -/
def opLst : OpN := fun ls S => match ls with
  | [x] => (match seqR x S with
    | some xs => .ok (.lst xs) S
    | none => .stuck)
  | _ => .stuck
def opLstN : OpN := fun ls S => match ls with
  | [x] => (match seqR x S with
    | some xs => .ok (.loc S.length) (S ++ [.lst xs])
    | none => .stuck)
  | _ => .stuck
theorem lstS : CallS E (rListA E.K) opLst := by
  intro r H S ds vs Q W o rl s
  unfold opLst at s
  split at s
  · split at s
    · obtain ⟨v, ws, rfl, h1, h2⟩ := repL_cons.mp rl
      rw [repL_nil.mp h2]
      obtain ⟨a, us, rfl, t, l⟩ := seqR_some (by assumption) o h1
      exact ⟨a, us, rfl, t, fun q hq => new_lst o l s hq⟩
    · exact s.elim
  · exact s.elim
theorem lstNS : CallS E (rListA E.K) opLstN := by
  intro r H S ds vs Q W o rl s
  unfold opLstN at s
  split at s
  · split at s
    · obtain ⟨v, ws, rfl, h1, h2⟩ := repL_cons.mp rl
      rw [repL_nil.mp h2]
      obtain ⟨a, us, rfl, t, l⟩ := seqR_some (by assumption) o h1
      exact ⟨a, us, rfl, t, fun q hq => new_loc o l s hq⟩
    · exact s.elim
  · exact s.elim
/-! ### list(range(..)), tuple(range(..)) -/
def rgOkD (i j : Int) : Bool := rngOk i && (rngOk j && decide ((j - i).toNat ≤ 2 ^ 24))
theorem rgOkD_iff {i j : Int} (h : rgOkD i j = true) : RgOk i j := by
  unfold rgOkD at h
  rw [Bool.and_eq_true, Bool.and_eq_true, decide_eq_true_eq] at h
  exact ⟨(rngOk_iff.mp h.1).1, (rngOk_iff.mp h.1).2, (rngOk_iff.mp h.2.1).1, (rngOk_iff.mp h.2.1).2, h.2.2⟩
theorem rgD_v {r : Reg} {H : Hp} (a b : Int) : RepL E r H (rangeD a (b - a).toNat) (rgV a b) :=
  (RepL.map_iff (f := fun i : Nat => D.int (a + (i : Nat))) (g := fun i : Nat => V.int (a + (i : Nat))) (fun _ _ => rep_int)).mpr rfl
def eListRg (new : Bool) (f : FE) : FE := fun ds S => (f ds S).bind fun d S1 => match d with
  | .int n => if rgOkD 0 n = true then (if new = true then .ok (.loc S1.length) (S1 ++ [.lst (rangeD 0 (n - 0).toNat)]) else .ok (.lst (rangeD 0 (n - 0).toNat)) S1) else .stuck
  | _ => .stuck
theorem de_listRg1 (new : Bool) (hc : X.calm = true) (hg : Gl X "list") (hm : X.mg "list" = none) (hg2 : Gl X "range") (hm2 : X.mg "range" = none) (ha : DE E X W a f) (na : starEach [a] X.env = (false, eval a X.env) :: starEach [] X.env := by rfl)
    (na2 : starEach [.Call (.Name "range" p1) [a] [] p2] X.env = (false, eval (.Call (.Name "range" p1) [a] [] p2) X.env) :: starEach [] X.env := by rfl) : DE E X W (.Call (.Name "list" p) [.Call (.Name "range" p1) [a] [] p2] [] pos) (eListRg new f) :=
  (pe_listRg hc hg hm (prg_1 hg2 hm2 ha na) na2).imp fun σ H Q q => tD_step q fun r ds S d v H1 p o rp s1 => by
    split at s1
    · split at s1
      · rename_i n hn
        refine ⟨n, rep_int.mp rp, rgOkD_iff hn, fun q hq => ?_⟩
        cases new with
        | true => rw [if_pos rfl] at s1; exact new_loc o (rgD_v 0 n) s1 hq
        | false => rw [if_neg (by decide)] at s1; exact new_lst o (rgD_v 0 n) s1 hq
      · exact s1.elim
    · exact s1.elim
end
/-! ### max, min, abs, str of ints -/
def opMax2 : OpN := fun ls S => match ls with
  | [.int i, .int j] => .ok (.int (if j > i then j else i)) S
  | _ => .stuck
def opMin2 : OpN := fun ls S => match ls with
  | [.int i, .int j] => .ok (.int (if j < i then j else i)) S
  | _ => .stuck
def opAbs : OpN := fun ls S => match ls with
  | [.int i] => .ok (.int (if i < 0 then -i else i)) S
  | _ => .stuck
def strOk (i : Int) : Bool := decide (i.natAbs.log2 < 1920)
def opStrI : OpN := fun ls S => match ls with
  | [.int i] => if strOk i = true then .ok (.str (toString i)) S else .stuck
  | _ => .stuck
section
variable {E : En}
theorem max2S : CallS E (fun xs H Q => ∃ i j, xs = [.int i, .int j] ∧ Q (.int (if j > i then j else i)) H) opMax2 := by
  intro r H S ds vs Q W o rl s
  unfold opMax2 at s
  split at s
  · obtain ⟨v, ws, rfl, h1, h2⟩ := repL_cons.mp rl
    obtain ⟨v', ws', rfl, h3, h4⟩ := repL_cons.mp h2
    rw [repL_nil.mp h4, rep_int.mp h1, rep_int.mp h3]
    exact ⟨_, _, rfl, s.here o (rep_int.mpr rfl)⟩
  · exact s.elim
theorem min2S : CallS E (fun xs H Q => ∃ i j, xs = [.int i, .int j] ∧ Q (.int (if j < i then j else i)) H) opMin2 := by
  intro r H S ds vs Q W o rl s
  unfold opMin2 at s
  split at s
  · obtain ⟨v, ws, rfl, h1, h2⟩ := repL_cons.mp rl
    obtain ⟨v', ws', rfl, h3, h4⟩ := repL_cons.mp h2
    rw [repL_nil.mp h4, rep_int.mp h1, rep_int.mp h3]
    exact ⟨_, _, rfl, s.here o (rep_int.mpr rfl)⟩
  · exact s.elim
theorem absS : CallS E (fun xs H Q => ∃ i, xs = [.int i] ∧ Q (.int (if i < 0 then -i else i)) H) opAbs := by
  intro r H S ds vs Q W o rl s
  unfold opAbs at s
  split at s
  · obtain ⟨v, ws, rfl, h1, h2⟩ := repL_cons.mp rl
    rw [repL_nil.mp h2, rep_int.mp h1]
    exact ⟨_, rfl, s.here o (rep_int.mpr rfl)⟩
  · exact s.elim
theorem strIS : CallS E (fun xs H Q => ∃ i, xs = [.int i] ∧ i.natAbs.log2 < 1920 ∧ Q (.str (toString i)) H) opStrI := by
  intro r H S ds vs Q W o rl s
  unfold opStrI at s
  split at s
  · split at s
    · obtain ⟨v, ws, rfl, h1, h2⟩ := repL_cons.mp rl
      rw [repL_nil.mp h2, rep_int.mp h1]
      exact ⟨_, rfl, of_decide_eq_true (by assumption), s.here o (rep_str.mpr rfl)⟩
    · exact s.elim
  · exact s.elim
/-! ### of lists: max, min, sum, all, any -/
def intsOf : List D → Option (List Int)
  | [] => some []
  | .int i :: ds => (intsOf ds).map (i :: ·)
  | _ => none
def blsOf : List D → Option (List Bool)
  | [] => some []
  | .bl i :: ds => (blsOf ds).map (i :: ·)
  | _ => none
theorem intsOf_eq : ∀ {ds : List D} {ns : List Int}, intsOf ds = some ns → ds = ns.map .int
  | [], ns, h => by unfold intsOf at h; cases h; rfl
  | .int i :: ds, ns, h => by
    unfold intsOf at h
    cases hd : intsOf ds with
    | none => rw [hd] at h; cases h
    | some ms => rw [hd] at h; cases h; rw [intsOf_eq hd]; rfl
  | .non :: _, _, h => by simp [intsOf] at h
  | .bl _ :: _, _, h => by simp [intsOf] at h
  | .str _ :: _, _, h => by simp [intsOf] at h
  | .tup _ :: _, _, h => by simp [intsOf] at h
  | .lst _ :: _, _, h => by simp [intsOf] at h
  | .dic _ _ :: _, _, h => by simp [intsOf] at h
  | .set _ :: _, _, h => by simp [intsOf] at h
  | .obj _ _ _ :: _, _, h => by simp [intsOf] at h
  | .loc _ :: _, _, h => by simp [intsOf] at h
  | .scr _ :: _, _, h => by simp [intsOf] at h
  | .lkd _ _ :: _, _, h => by simp [intsOf] at h
theorem blsOf_eq : ∀ {ds : List D} {ns : List Bool}, blsOf ds = some ns → ds = ns.map .bl
  | [], ns, h => by unfold blsOf at h; cases h; rfl
  | .bl i :: ds, ns, h => by
    unfold blsOf at h
    cases hd : blsOf ds with
    | none => rw [hd] at h; cases h
    | some ms => rw [hd] at h; cases h; rw [blsOf_eq hd]; rfl
  | .non :: _, _, h => by simp [blsOf] at h
  | .int _ :: _, _, h => by simp [blsOf] at h
  | .str _ :: _, _, h => by simp [blsOf] at h
  | .tup _ :: _, _, h => by simp [blsOf] at h
  | .lst _ :: _, _, h => by simp [blsOf] at h
  | .dic _ _ :: _, _, h => by simp [blsOf] at h
  | .set _ :: _, _, h => by simp [blsOf] at h
  | .obj _ _ _ :: _, _, h => by simp [blsOf] at h
  | .loc _ :: _, _, h => by simp [blsOf] at h
  | .scr _ :: _, _, h => by simp [blsOf] at h
  | .lkd _ _ :: _, _, h => by simp [blsOf] at h
theorem intsOf_map (ns : List Int) : intsOf (ns.map .int) = some ns := by
  induction ns with
  | nil => rfl
  | cons n ns ih => rw [List.map_cons]; unfold intsOf; rw [ih]; rfl
theorem blsOf_map (ns : List Bool) : blsOf (ns.map .bl) = some ns := by
  induction ns with
  | nil => rfl
  | cons n ns ih => rw [List.map_cons]; unfold blsOf; rw [ih]; rfl
def opIntsL (f : List Int → Option Int) : OpN := fun ls S => match ls with
  | [x] => (match lstR x S with
    | some xs => (match intsOf xs with
      | some ns => (match f ns with
        | some m => .ok (.int m) S
        | none => .stuck)
      | none => .stuck)
    | none => .stuck)
  | _ => .stuck
def maxF : List Int → Option Int
  | [] => none
  | n :: ns => some (ns.foldl max n)
def minF : List Int → Option Int
  | [] => none
  | n :: ns => some (ns.foldl min n)
def opMaxL : OpN := opIntsL maxF
def opMinL : OpN := opIntsL minF
def opSumL : OpN := opIntsL fun ns => some ns.sum
theorem intsL_ex {r : Reg} {H : Hp} {S : List D} {ds : List D} {vs : List V} {f : List Int → Option Int} {Q : VK} {W : XW} (o : SOk E r H S) (rl : RepL E r H ds vs) (s : Sat E r H (opIntsL f ds S) Q W) :
    ∃ a ns m, vs = [.ref a] ∧ SqL E.K H a (ns.map V.int) ∧ f ns = some m ∧ Q (.int m) H := by
  unfold opIntsL at s
  split at s
  · split at s
    · split at s
      · split at s
        · rename_i hl _ ns hn _ m hm
          obtain ⟨v, ws, rfl, h1, h2⟩ := repL_cons.mp rl
          rw [repL_nil.mp h2]
          obtain ⟨a, us, rfl, t, l⟩ := lstR_some hl o h1
          rw [intsOf_eq hn] at l
          rw [repL_ints.mp l] at t
          exact ⟨a, ns, m, rfl, t, hm, s.here o (rep_int.mpr rfl)⟩
        · exact s.elim
      · exact s.elim
    · exact s.elim
  · exact s.elim
theorem foldl_max (ns : List Int) : ∀ n : Int, (∀ y ∈ n :: ns, y ≤ ns.foldl max n) ∧ ns.foldl max n ∈ n :: ns := by
  induction ns with
  | nil => intro n; simp
  | cons m ns ih =>
    intro n
    rw [List.foldl_cons]
    obtain ⟨h1, h2⟩ := ih (max n m)
    have hb := h1 (max n m) List.mem_cons_self
    refine ⟨fun y hy => ?_, ?_⟩
    · rcases List.mem_cons.mp hy with rfl | hy
      · omega
      · rcases List.mem_cons.mp hy with rfl | hy
        · omega
        · exact h1 y (List.mem_cons_of_mem _ hy)
    · rcases List.mem_cons.mp h2 with e | e
      · rw [e]
        by_cases h : n ≤ m
        · rw [show max n m = m by omega]; simp
        · rw [show max n m = n by omega]; simp
      · exact List.mem_cons_of_mem _ (List.mem_cons_of_mem _ e)
theorem foldl_min (ns : List Int) : ∀ n : Int, (∀ y ∈ n :: ns, ns.foldl min n ≤ y) ∧ ns.foldl min n ∈ n :: ns := by
  induction ns with
  | nil => intro n; simp
  | cons m ns ih =>
    intro n
    rw [List.foldl_cons]
    obtain ⟨h1, h2⟩ := ih (min n m)
    have hb := h1 (min n m) List.mem_cons_self
    refine ⟨fun y hy => ?_, ?_⟩
    · rcases List.mem_cons.mp hy with rfl | hy
      · omega
      · rcases List.mem_cons.mp hy with rfl | hy
        · omega
        · exact h1 y (List.mem_cons_of_mem _ hy)
    · rcases List.mem_cons.mp h2 with e | e
      · rw [e]
        by_cases h : n ≤ m
        · rw [show min n m = n by omega]; simp
        · rw [show min n m = m by omega]; simp
      · exact List.mem_cons_of_mem _ (List.mem_cons_of_mem _ e)
theorem maxLS : CallS E (rMax E.K) opMaxL := by
  intro r H S ds vs Q W o rl s
  obtain ⟨a, ns, m, rfl, t, hm, q⟩ := intsL_ex o rl s
  cases ns with
  | nil => cases hm
  | cons n ns =>
    cases hm
    obtain ⟨h1, h2⟩ := foldl_max ns n
    refine ⟨a, n :: ns, rfl, t, by simp, fun m h3 h4 => ?_⟩
    have : m = ns.foldl max n := by
      have a1 := h1 m h3
      have a2 := h4 _ h2
      omega
    rw [this]; exact q
theorem minLS : CallS E (rMin E.K) opMinL := by
  intro r H S ds vs Q W o rl s
  obtain ⟨a, ns, m, rfl, t, hm, q⟩ := intsL_ex o rl s
  cases ns with
  | nil => cases hm
  | cons n ns =>
    cases hm
    obtain ⟨h1, h2⟩ := foldl_min ns n
    refine ⟨a, n :: ns, rfl, t, by simp, fun m h3 h4 => ?_⟩
    have : m = ns.foldl min n := by
      have a1 := h1 m h3
      have a2 := h4 _ h2
      omega
    rw [this]; exact q
theorem sumLS : CallS E (rSum E.K) opSumL := by
  intro r H S ds vs Q W o rl s
  obtain ⟨a, ns, m, rfl, t, hm, q⟩ := intsL_ex o rl s
  cases hm
  exact ⟨a, ns, rfl, t, q⟩
def opBlsL (f : List Bool → Bool) : OpN := fun ls S => match ls with
  | [x] => (match lstR x S with
    | some xs => (match blsOf xs with
      | some ns => .ok (.bl (f ns)) S
      | none => .stuck)
    | none => .stuck)
  | _ => .stuck
def opAllL : OpN := opBlsL fun bs => bs.all id
def opAnyL : OpN := opBlsL fun bs => bs.any id
theorem blsL_ex {r : Reg} {H : Hp} {S : List D} {ds : List D} {vs : List V} {f : List Bool → Bool} {Q : VK} {W : XW} (o : SOk E r H S) (rl : RepL E r H ds vs) (s : Sat E r H (opBlsL f ds S) Q W) :
    ∃ a ns, vs = [.ref a] ∧ SqL E.K H a (ns.map V.bl) ∧ Q (.bl (f ns)) H := by
  unfold opBlsL at s
  split at s
  · split at s
    · split at s
      · rename_i hl _ ns hn
        obtain ⟨v, ws, rfl, h1, h2⟩ := repL_cons.mp rl
        rw [repL_nil.mp h2]
        obtain ⟨a, us, rfl, t, l⟩ := lstR_some hl o h1
        rw [blsOf_eq hn] at l
        rw [repL_bls.mp l] at t
        exact ⟨a, ns, rfl, t, s.here o (rep_bl.mpr rfl)⟩
      · exact s.elim
    · exact s.elim
  · exact s.elim
theorem allLS : CallS E (rAll E.K) opAllL := fun r H S ds vs Q W o rl s => let ⟨a, ns, e, t, q⟩ := blsL_ex o rl s; ⟨a, ns, e, t, q⟩
theorem anyLS : CallS E (rAny E.K) opAnyL := fun r H S ds vs Q W o rl s => let ⟨a, ns, e, t, q⟩ := blsL_ex o rl s; ⟨a, ns, e, t, q⟩
end
end Dl

set_option Elab.async false
set_option linter.all false
set_option maxRecDepth 100000
set_option maxHeartbeats 4000000
/-! Dl9: isinstance, enumerate, walks of dicts. -/
namespace Dl
open PySem PySem.Spec PyProof.Rows L2

/-! ### isinstance -/
inductive Tk where
  | non | bl | int | str | lst | tup | dic
  deriving DecidableEq
def Tk.name : Tk → String
  | .non => "NoneType"
  | .bl => "bool"
  | .int => "int"
  | .str => "str"
  | .lst => "list"
  | .tup => "tuple"
  | .dic => "dict"
def tkD (d : D) (S : List D) : Option Tk := match d with
  | .non => some .non
  | .bl _ => some .bl
  | .int _ => some .int
  | .str _ => some .str
  | .lst _ => some .lst
  | .scr _ => some .lst
  | .tup _ => some .tup
  | .dic _ _ => some .dic
  | .loc n => (match S[n]? with
    | some (.lst _) => some .lst
    | some (.dic _ _) => some .dic
    | _ => none)
  | _ => none
theorem tkD_ty {E : En} {r : Reg} {H : Hp} {S : List D} {d : D} {v : V} {t : Tk} (h : tkD d S = some t) (o : SOk E r H S) (rp : Rep E r H d v) : TyX E.K H v (.type t.name) := by
  cases d with
  | non => cases h; rw [rep_non.mp rp]; exact .base .non
  | bl b => cases h; rw [rep_bl.mp rp]; exact .base (.bl b)
  | int i => cases h; rw [rep_int.mp rp]; exact .base (.int i)
  | str x => cases h; rw [rep_str.mp rp]; exact .base (.str x)
  | tup ds =>
    cases h
    obtain ⟨a, vs, rfl, t, _⟩ := rep_tup.mp rp
    rcases t with ⟨_, t | ⟨ob, t⟩⟩ | t
    · exact .base (.tup t)
    · exact .fTuple t
    · rcases t with (t | ⟨_, t⟩) | ⟨ob, its, n, e, c, _⟩
      · cases t
      · cases t
      · exact .kTuple e c
  | lst ds => cases h; obtain ⟨a, vs, rfl, t, _⟩ := rep_lst.mp rp; exact .base (.lst t.2)
  | scr ns =>
    cases h
    obtain ⟨a, rfl, t⟩ := rep_scr.mp rp
    rcases t with ⟨_, t | ⟨ob, t⟩⟩ | t
    · exact .base (.lst t)
    · exact .base (.frz t)
    · rcases t with (t | ⟨_, t⟩) | ⟨ob, its, n, e, c, _⟩
      · cases t
      · cases t
      · exact .kList e c
  | dic ks ds => cases h; obtain ⟨a, kvs, rfl, _, e, _⟩ := rep_dic.mp rp; exact .base (.dK e)
  | loc n =>
    unfold tkD at h
    dsimp only at h
    obtain ⟨a, q, rfl⟩ := rep_loc.mp rp
    split at h
    · rename_i hn
      cases h
      obtain ⟨vs, e, _⟩ := o.at_ _ a _ q hn
      exact .base (.lst e)
    · rename_i hn
      cases h
      obtain ⟨kvs, e, _⟩ := o.at_ _ a _ q hn
      exact .base (.dK e)
    · cases h
  | _ => cases h
def opIsi (f : Tk → Bool) : Op1 := fun x S => match tkD x S with
  | some t => .ok (.bl (f t)) S
  | none => .stuck
def isInt : Tk → Bool
  | .int => true
  | .bl => true
  | _ => false
def isBool : Tk → Bool
  | .bl => true
  | _ => false
def isTup : Tk → Bool
  | .tup => true
  | _ => false
def isList : Tk → Bool
  | .lst => true
  | _ => false
def isDict : Tk → Bool
  | .dic => true
  | _ => false
def isText : Tk → Bool
  | .str => true
  | _ => false
theorem isInt_k {K : PySem.W.Frag} (t : Tk) : PySem.W.kitOne K (.type t.name) (.type "int") = some (isInt t) := by cases t <;> exact kit_ty (by decide +kernel)
theorem isBool_k {K : PySem.W.Frag} (t : Tk) : PySem.W.kitOne K (.type t.name) (.type "bool") = some (isBool t) := by cases t <;> exact kit_ty (by decide +kernel)
theorem isTup_k {K : PySem.W.Frag} (t : Tk) : PySem.W.kitOne K (.type t.name) (.type "tuple") = some (isTup t) := by cases t <;> exact kit_ty (by decide +kernel)
theorem isList_k {K : PySem.W.Frag} (t : Tk) : PySem.W.kitOne K (.type t.name) (.type "list") = some (isList t) := by cases t <;> exact kit_ty (by decide +kernel)
theorem isDict_k {K : PySem.W.Frag} (t : Tk) : PySem.W.kitOne K (.type t.name) (.type "dict") = some (isDict t) := by cases t <;> exact kit_ty (by decide +kernel)
theorem isText_k {K : PySem.W.Frag} (t : Tk) : PySem.W.kitOne K (.type t.name) (.type "str") = some (isText t) := by cases t <;> exact kit_ty (by decide +kernel)
section
variable {E : En} {X : Cx} {W : WX} {e : Expr} {f : FE} {pos p p2 : Pos} {c : Str} {n : String} {q : Tk → Bool}
/-- isinstance(e, T), T the name of a built-in type -/
theorem de_isi (hK : E.K = X.K) (hg : Gl X "isinstance") (hm : X.mg "isinstance" = none) (hgc : Gl X c) (hmc : X.mg c = none) (hv : bootBuiltins c = some (.type n)) (hk : ∀ t : Tk, PySem.W.kitOne E.K (.type t.name) (.type n) = some (q t)) (ha : DE E X W e f)
    (hn : c ≠ "__name__" := by decide) (hdb : (c == ("__debug__" : Str)) = false := by decide) (hb : bootBuiltins "isinstance" = some (.builtin "isinstance") := by exact boot_isinstance)
    (he : starEach [e, .Name c p2] X.env = (false, eval e X.env) :: starEach [.Name c p2] X.env := by rfl) (he2 : starEach [.Name c p2] X.env = (false, eval (.Name c p2) X.env) :: starEach [] X.env := by rfl)
    (hpl : (backTo pos (starEach [.Name c p2] X.env)).any (·.1) = false := by rfl) : DE E X W (.Call (.Name "isinstance" p) [e, .Name c p2] [] pos) (eThen (opIsi q) f) :=
  (pe_callB call_isi hg hm hb (pa_cons ha (pa_cons (pe_bltn (v := .ty n) hgc hmc hv rfl hn hdb) pa_nil he2) he) (by decide) (by decide) he hpl).imp fun σ H Q h => by
    refine tD_step h fun r ds S d v H1 pp o rp s1 => ?_
    unfold opIsi at s1
    split at s1
    · rename_i t ht
      exact ⟨v, .ty n, .type t.name, .type n, q t, rfl, .ty n, hK ▸ tkD_ty ht o rp, hK ▸ hk t, s1.here o (rep_bl.mpr rfl)⟩
    · exact s1.elim
end
/-! ### enumerate -/
def enumD : Nat → List D → List D
  | _, [] => []
  | k, d :: ds => .tup [.int (k : Nat), d] :: enumD (k + 1) ds
theorem enumD_get : ∀ (k : Nat) (ds : List D) (i : Nat), (enumD k ds)[i]? = (ds[i]?).map fun d => .tup [.int ((k + i : Nat) : Int), d]
  | k, [], i => by simp [enumD]
  | k, d :: ds, 0 => by simp [enumD]
  | k, d :: ds, i + 1 => by
    unfold enumD
    rw [List.getElem?_cons_succ, List.getElem?_cons_succ, enumD_get (k + 1) ds i]
    congr 1
    funext d
    rw [Nat.add_right_comm]; rfl
theorem enumD_length : ∀ (k : Nat) (ds : List D), (enumD k ds).length = ds.length
  | _, [] => rfl
  | k, d :: ds => by unfold enumD; rw [List.length_cons, List.length_cons, enumD_length]
/-- a list of the store, as it stands -/
def wkE (n m : Nat) : Wk := ⟨m, fun i S => match S[n]? with
  | some (.lst xs) => (xs[i]?).map fun d => .tup [.int (i : Nat), d]
  | _ => none, fun S => match S[n]? with
  | some (.lst xs) => xs.length == m
  | _ => false⟩
/-- a list of the store, itself -/
def wkS (n m : Nat) : Wk := ⟨m, fun i S => match S[n]? with
  | some (.lst xs) => xs[i]?
  | _ => none, fun S => match S[n]? with
  | some (.lst xs) => xs.length == m
  | _ => false⟩
def enumW (d : D) (S : List D) : Option Wk := match d with
  | .lst xs => some (wkL (enumD 0 xs))
  | .loc n => (match S[n]? with
    | some (.lst xs) => some (wkE n xs.length)
    | _ => none)
  | _ => none
def seqW (d : D) (S : List D) : Option Wk := match d with
  | .lst xs => some (wkL xs)
  | .loc n => (match S[n]? with
    | some (.lst xs) => some (wkS n xs.length)
    | _ => none)
  | _ => none
def iWalk (w : D → List D → Option Wk) (f : FE) : FI := fun ds S => (f ds S).bind fun d S1 => match w d S1 with
  | some k => .ok k S1
  | none => .stuck
/-- for i, x in enumerate(a list), of any kind; for x in a list, of any kind -/
def iEnumD (f : FE) : FI := iWalk enumW f
def iSeqA (f : FE) : FI := iWalk seqW f
section
variable {E : En} {r : Reg} {H : Hp} {S : List D}
theorem pair_new {E : En} {r1 : Reg} {H1 : Hp} {S1 : List D} {i : Nat} {x : V} {d : D} {T : Addr} (o : SOk E r1 H1 S1) (rp : Rep E r1 H1 d x) (hT : H1 T = none) :
    Step r1 H1 r1 (upd H1 T (.tup [.int (i : Nat), x])) ∧ SOk E r1 (upd H1 T (.tup [.int (i : Nat), x])) S1 ∧ Rep E r1 (upd H1 T (.tup [.int (i : Nat), x])) (.tup [.int (i : Nat), d]) (.ref T) :=
  ⟨Step.new hT, o.new hT, rep_tup.mpr ⟨T, _, rfl, .inl ⟨o.notin hT, .inl upd_same⟩, repL_cons.mpr ⟨_, _, rfl, rep_int.mpr rfl, .one (rp.mono (Step.new hT))⟩⟩⟩
theorem it_enumL {a : Addr} {vs : List V} {ds : List D} (t : LstAt r H a vs) (l : RepL E r H ds vs) : ItOk E (Ite E.K a) r H (wkL (enumD 0 ds)) := fun i r1 H1 S1 st o =>
  ⟨fun e _ => ⟨vs, (t.mono st).sq, by rw [e]; show vs.length ≤ (enumD 0 ds).length; rw [enumD_length, l.length]; exact Nat.le_refl _⟩, fun d _ hd => by
    replace hd : (enumD 0 ds)[i]? = some d := hd
    rw [enumD_get, Nat.zero_add] at hd
    cases hx : ds[i]? with
    | none => rw [hx] at hd; cases hd
    | some d' =>
      rw [hx] at hd; cases hd
      obtain ⟨v, hv, rp⟩ := l.get hx
      refine ⟨⟨vs, v, (t.mono st).sq, hv⟩, fun y H2 ⟨T, x, e1, e2, e3, k⟩ => ?_⟩
      subst e1 e3
      have := k vs (t.mono st).sq
      rw [hv] at this; cases this
      exact pair_new o (rp.mono st) e2⟩
theorem it_enumS {n m : Nat} {a : Addr} (ha : r.l[n]? = some a) : ItOk E (Ite E.K a) r H (wkE n m) := fun i r1 H1 S1 st o => by
  have ha1 := st.get ha
  refine ⟨fun e hf => ?_, fun d hi hd => ?_⟩
  · have hf' : (match S1[n]? with | some (.lst xs) => xs.length == m | _ => false) = true := hf
    split at hf'
    · rename_i xs hn
      obtain ⟨vs, e1, l⟩ := o.at_ n a _ ha1 hn
      refine ⟨vs, .inl (.inl e1), ?_⟩
      rw [e, ← l.length, eq_of_beq hf']
      exact Nat.le_refl _
    · cases hf'
  · have hd' : (match S1[n]? with | some (.lst xs) => (xs[i]?).map (fun d => D.tup [.int (i : Nat), d]) | _ => none) = some d := hd
    split at hd'
    · rename_i xs hn
      obtain ⟨vs, e1, l⟩ := o.at_ n a _ ha1 hn
      cases hx : xs[i]? with
      | none => rw [hx] at hd'; cases hd'
      | some d' =>
        rw [hx] at hd'; cases hd'
        obtain ⟨v, hv, rp⟩ := l.get hx
        refine ⟨⟨vs, v, .inl (.inl e1), hv⟩, fun y H2 ⟨T, x, e2, e3, e4, k⟩ => ?_⟩
        subst e2 e4
        have := k vs (.inl (.inl e1))
        rw [hv] at this; cases this
        exact pair_new o rp e3
    · cases hd'
theorem it_seqS {n m : Nat} {a : Addr} (ha : r.l[n]? = some a) : ItOk E (Itl E.K a) r H (wkS n m) := fun i r1 H1 S1 st o => by
  have ha1 := st.get ha
  refine ⟨fun e hf => ?_, fun d hi hd => ?_⟩
  · have hf' : (match S1[n]? with | some (.lst xs) => xs.length == m | _ => false) = true := hf
    split at hf'
    · rename_i xs hn
      obtain ⟨vs, e1, l⟩ := o.at_ n a _ ha1 hn
      refine ⟨vs, .inl (.inl e1), ?_⟩
      rw [e, ← l.length, eq_of_beq hf']
      exact Nat.le_refl _
    · cases hf'
  · have hd' : (match S1[n]? with | some (.lst xs) => xs[i]? | _ => none) = some d := hd
    split at hd'
    · rename_i xs hn
      obtain ⟨vs, e1, l⟩ := o.at_ n a _ ha1 hn
      obtain ⟨v, hv, rp⟩ := l.get hd'
      refine ⟨⟨vs, v, .inl (.inl e1), hv⟩, fun y H2 ⟨e2, k⟩ => ?_⟩
      subst e2
      have := k vs (.inl (.inl e1))
      rw [hv] at this; cases this
      exact ⟨Step.refl _ _, o, rp⟩
    · cases hd'
end
theorem tDI_walk {E : En} {W : WX} {w : D → List D → Option Wk} {f : FE} {σ : L2.St} {H : Hp} {R' : It → Hp → Prop} {Q' : VK} (h : tDI E W (iWalk w f) σ H R')
    (hk : ∀ r S d v H1 k, SOk E r H1 S → Rep E r H1 d v → w d S = some k → (∀ J, ItOk E J r H1 k → R' J H1) → Q' v H1) : tD E W f σ H Q' :=
  tDI_of h (fun r ds S d v H1 items S' p o rp e k => by
    cases hw : w d S with
    | none => rw [hw] at e; cases e
    | some q =>
      rw [hw] at e; cases e
      exact hk r S d v H1 _ o rp hw fun J it => k J H1 r (Step.refl _ _) o it) fun ds d S => by
      cases hw : w d S with
      | none => exact .inr rfl
      | some q => exact .inl ⟨_, _, rfl⟩
section
variable {E : En} {X : Cx} {W : WX} {pos p tpos : Pos} {e tg : Expr} {elts : List Expr} {kk : Nat} {g : FA} {f : FE}
theorem di_enum (hK : E.K = X.K) (hg : Gl X "enumerate") (hm : X.mg "enumerate" = none) (ha : DE E X W e f) (hs : starEach [e] X.env = [(false, eval e X.env)] := by rfl) (hs2 : starEach [e] X.env = (false, eval e X.env) :: starEach [] X.env := by rfl) :
    DI E X W (.Tuple elts kk tpos) (.Call (.Name "enumerate" p) [e] [] pos) (iEnumD f) :=
  (pi_enum hg hm (pa_cons ha pa_nil hs2) hs).imp fun σ H R' h => by
    refine tDI_walk h fun r S d v H1 k o rp e hk => ?_
    rw [← hK]
    unfold enumW at e
    split at e
    · cases e
      obtain ⟨a, us, rfl, t, l⟩ := rep_lst.mp rp
      exact ⟨a, us, rfl, t.sq, hk _ (it_enumL t l)⟩
    · split at e
      · cases e
        rename_i hn
        obtain ⟨a, us, rfl, ha', e1, l⟩ := loc_lst o hn rp
        exact ⟨a, us, rfl, .inl (.inl e1), hk _ (it_enumS ha')⟩
      · cases e
    · cases e
theorem di_seqA (h : DE E X W e f) (hK : E.K = X.K) : DI E X W tg e (iSeqA f) :=
  (pi_list h).imp fun σ H R' q => by
    refine tDI_walk q fun r S d v H1 k o rp e hk => ?_
    rw [← hK]
    unfold seqW at e
    split at e
    · cases e
      obtain ⟨a, us, rfl, t, l⟩ := rep_lst.mp rp
      exact ⟨a, rfl, ⟨us, t.sq⟩, hk _ (it_list t l)⟩
    · split at e
      · cases e
        rename_i hn
        obtain ⟨a, us, rfl, ha', e1, l⟩ := loc_lst o hn rp
        exact ⟨a, rfl, ⟨us, .inl (.inl e1)⟩, hk _ (it_seqS ha')⟩
      · cases e
    · cases e
/-! ### d.items() under a lock -/
def itemsD (ks : List Key) (ds : List D) : List D := List.zipWith (fun k d => D.tup [keyD k, d]) ks ds
theorem keyD_v {r : Reg} {H : Hp} {k : Key} : Rep E r H (keyD k) (kV k) := by
  cases k with
  | inl i => exact rep_int.mpr rfl
  | inr x => exact rep_str.mpr rfl
theorem itemsD_get {r : Reg} {H : Hp} : ∀ {kvs : List (Key × V)} {ds : List D} {i : Nat} {d : D}, RepL E r H ds (kvs.map (·.2)) → (itemsD (kvs.map (·.1)) ds)[i]? = some d → ∃ k v e, kvs[i]? = some (k, v) ∧ d = .tup [keyD k, e] ∧ Rep E r H e v
  | [], ds, i, d, l, h => by simp [itemsD] at h
  | p :: kvs, [], i, d, l, h => by simp [itemsD] at h
  | p :: kvs, e :: ds, 0, d, l, h => by
    obtain ⟨v, ws, eq, h1, h2⟩ := repL_cons.mp l
    rw [List.map_cons] at eq
    cases eq
    simp [itemsD] at h
    subst h
    exact ⟨p.1, p.2, e, rfl, rfl, h1⟩
  | p :: kvs, e :: ds, i + 1, d, l, h => by
    obtain ⟨v, ws, eq, h1, h2⟩ := repL_cons.mp l
    rw [List.map_cons] at eq
    cases eq
    obtain ⟨k, v, e', q1, q2, q3⟩ := itemsD_get (i := i) h2 (by simpa [itemsD] using h)
    exact ⟨k, v, e', by simpa using q1, q2, q3⟩
/-- d.items() of a locked dict of the store -/
def itemsW (d : D) (S : List D) : Option Wk := match d with
  | .loc n => (match S[n]? with
    | some (.lkd ks ds) => some (wkL (itemsD ks ds))
    | _ => none)
  | _ => none
def valsW (d : D) (S : List D) : Option Wk := match d with
  | .loc n => (match S[n]? with
    | some (.lkd _ ds) => some (wkL ds)
    | _ => none)
  | _ => none
theorem di_items {apos cpos : Pos} (h : DE E X W e f) (hbase : attributeBase e "items" X.env (eval e X.env) = eval e X.env := by rfl) (hline : (apos.endLine == cpos.line) = true := by rfl) :
    DI E X W (.Tuple elts kk tpos) (.Call (.Attribute e "items" apos) [] [] cpos) (iWalk itemsW f) :=
  (pi_items h hbase hline).imp fun σ H R' q => by
    refine tDI_walk q fun r S d v H1 k o rp e hk => ?_
    unfold itemsW at e
    split at e
    · split at e
      · cases e
        rename_i n _ ks ds hn
        obtain ⟨a, ha, rfl⟩ := rep_loc.mp rp
        obtain ⟨ob, kvs, e1, rfl, l⟩ := o.at_ n a _ ha hn
        refine ⟨a, ob, kvs, rfl, e1, hk _ fun i r1 H2 S1 st o1 => ⟨fun ei _ => ⟨st.fz a ob _ e1, ?_⟩, fun d hi hd => ?_⟩⟩
        · have : (itemsD (kvs.map (·.1)) ds).length = kvs.length := by
            unfold itemsD
            rw [List.length_zipWith, List.length_map, l.length, List.length_map, Nat.min_self]
          rw [ei]
          show kvs.length ≤ (itemsD _ ds).length
          omega
        · obtain ⟨k, v, e', q1, rfl, q3⟩ := itemsD_get l hd
          refine ⟨⟨st.fz a ob _ e1, (List.getElem?_eq_some_iff.mp q1).1⟩, fun x H3 ⟨T, k', v', g1, g2, g3, g4⟩ => ?_⟩
          rw [q1] at g1; cases g1
          subst g2 g4
          exact ⟨Step.new g3, o1.new g3, rep_tup.mpr ⟨T, _, rfl, .inl ⟨o1.notin g3, .inl upd_same⟩, repL_cons.mpr ⟨_, _, rfl, keyD_v, .one ((q3.mono st).mono (Step.new g3))⟩⟩⟩
      · cases e
    · cases e
/-- an expression evaluated while the dict at the slot's place is locked -/
def eLock (i : Nat) (f : FE) : FE := fun ds S => match ds[i]? with
  | some (some (.loc n)) => (match S[n]? with
    | some (.dic ks es) => (match f ds (S.set n (.lkd ks es)) with
      | .ok d S' => (match S'[n]? with
        | some (.lkd ks' es') => .ok d (S'.set n (.dic ks' es'))
        | _ => .stuck)
      | _ => .stuck)
    | _ => .stuck)
  | _ => .stuck
theorem same_put {r : Reg} {H : Hp} {a : Addr} {o : HO} (ha : a ∈ r.l) : Same3 r H r (upd H a o) := ⟨fun _ _ h => h, fun b u n h => ⟨n, by rw [upd_ne (fun (q : b = a) => n.1 (q ▸ ha))]; exact h⟩⟩
theorem SOk.put3 {r : Reg} {H : Hp} {S : List D} {n : Nat} {a : Addr} {o : HO} {d : D} (k : SOk E r H S) (ha : r.l[n]? = some a) (hd : Cont E r (upd H a o) a d) : SOk E r (upd H a o) (S.set n d) := by
  have hm : a ∈ r.l := List.mem_of_getElem? ha
  obtain ⟨d0, c0⟩ := k.cont hm
  obtain ⟨o', e', nt⟩ := c0.some
  have nz : ∀ b ∈ r.z, b ≠ a := fun b h q => k.zl b h (q ▸ hm)
  refine ⟨by rw [List.length_set]; exact k.len, k.nd, fun i b u h1 h2 => ?_, tabs_put k.tb (fun ps q => by rw [e'] at q; exact nt ps (Option.some.inj q)) (fun q h => c0.ncode h),
    fun b h => by rw [upd_ne (nz b h)]; exact k.zal b h, k.zl, fun b h => by rw [upd_ne (nz b h)]; exact k.zc b h⟩
  by_cases q : n = i
  · subst q
    have hi : n < S.length := by rw [← k.len]; exact (List.getElem?_eq_some_iff.mp h1).1
    rw [List.getElem?_set_self hi] at h2
    cases h2
    rw [ha] at h1; cases h1
    exact hd
  · rw [List.getElem?_set_ne q] at h2
    refine (k.at_ i b u h1 h2).same (same_put hm) (upd_ne ?_)
    rintro rfl
    exact q (nodup_get k.nd ha h1)
theorem de_lock {i : Nat} (h : DE E X W e f) : DE E X W e (eLock i f) :=
  (pe_lock h).imp fun σ H Q ⟨r, ds, S, p, o, s⟩ => by
    unfold eLock at s
    split at s
    · split at s
      · rename_i n hi _ ks es hn
        obtain ⟨a, ha, c⟩ := o.get hn
        obtain ⟨kvs, e1, rfl, l⟩ := c
        have hm : a ∈ r.l := List.mem_of_getElem? ha
        have nf : ∀ x u, H a ≠ some (.frz x u) := fun x u h => by rw [e1] at h; cases h
        refine ⟨a, .dK kvs, e1, trivial, fun od => ?_⟩
        have st0 : Step r H r (upd H a (.frz od (.dK kvs))) := Step.put hm nf
        have o0 := o.put3 (o := .frz od (.dK kvs)) (d := .lkd (kvs.map (·.1)) es) ha ⟨od, kvs, upd_same, rfl, l.same (same_put hm)⟩
        refine ⟨r, ds, _, p.same (same_put hm), o0, ?_⟩
        cases hf : f ds (S.set n (.lkd (kvs.map (·.1)) es)) with
        | exc c ns fs S' => rw [hf] at s; exact s.elim
        | stuck => rw [hf] at s; exact s.elim
        | ok d S' =>
          rw [hf] at s
          dsimp only at s
          split at s
          · rename_i ks' es' hn'
            intro v H' r' st o' rp
            have fz := st.fz a od _ upd_same
            refine ⟨fz, ?_⟩
            have ha' := st.get ha
            have hm' : a ∈ r'.l := List.mem_of_getElem? ha'
            obtain ⟨od2, kvs2, e2, rfl, l2⟩ := o'.at_ n a _ ha' hn'
            rw [fz] at e2; cases e2
            refine s v _ r' ⟨?_, fun b u hb hr ht => ?_, fun b hb => ?_, st.z1, fun b hb => ?_, fun b x u hb => ?_⟩ (o'.put3 ha' ⟨_, upd_same, rfl, l2.same (same_put hm')⟩) (rp.same (same_put hm'))
            · obtain ⟨e, q1, q2⟩ := st.ex
              refine ⟨e, q1, fun b hb => ?_⟩
              have := q2 b hb
              by_cases hba : b = a
              · rw [hba, upd_same] at this; cases this
              · rw [upd_ne hba] at this; exact this
            · have hba : b ≠ a := fun q => hr (q ▸ hm)
              rw [upd_ne hba]
              exact st.kp b u (by rw [upd_ne hba]; exact hb) hr ht
            · by_cases hba : b = a
              · rw [hba, upd_same]; exact fun q => nomatch q
              · rw [upd_ne hba]; exact st.th b (by rw [upd_ne hba]; exact hb)
            · rcases st.z2 b hb with q | q
              · exact .inl q
              · refine .inr ?_
                by_cases hba : b = a
                · rw [hba, upd_same] at q; cases q
                · rw [upd_ne hba] at q; exact q
            · have hba : b ≠ a := fun q => nf x u (q ▸ hb)
              rw [upd_ne hba]
              exact st.fz b x u (by rw [upd_ne hba]; exact hb)
          · exact s.elim
      · exact s.elim
    · exact s.elim
end
end Dl

set_option Elab.async false
set_option linter.all false
set_option maxRecDepth 100000
set_option maxHeartbeats 4000000
/-! Dl10: set comprehensions of ints. -/
namespace Dl
open PySem PySem.Spec PyProof.Rows L2

/-- what a set comprehension of ints wants; Da the new set -/
def tSetC (w : World) (wi : TI) (g : TG) (tt : TT) (te : TE) (vs : List Nat) : TE := fun σ H Q => wi σ H fun J H1 => ∀ Da, H1 Da = none →
  ∃ P : Nat → Nat → Hp → Prop, (∃ m, P 0 m (upd H1 Da (SetO w Da (fun _ => false) 0))) ∧ ∀ i m H', P i m H' → (J.stop i H' ∧ Q (.ref Da) H') ∨
    (J.go i H' ∧ ∃ N : Hp → Prop, (∀ H2, N H2 → ∃ m', m' < m ∧ P (i + 1) m' H2) ∧ ∀ x H2, J.yld i H' x H2 → g x (wipe σ vs) H2 fun σ2 H3 => wipe σ2 vs = wipe σ vs ∧ tt σ2 H3 fun b H4 =>
      if b = true then te σ2 H4 fun y H5 => rSAdd w (.ref Da) [y] H5 (fun z H6 => z = .non ∧ N H6) else N H4)
section
variable {X : Cx} {elt tg iter : Expr} {ifs : List Expr} {scope : Scope} {own : List (PySem.Str × Nat)} {wi : TI} {g : TG} {tt : TT} {te : TE}
/-- the accumulator's heap -/
abbrev setStart (X : Cx) (H : Hp) (Da : Addr) : Hp := upd H Da (SetO X.w Da (fun _ => false) 0)
abbrev setObj (X : Cx) : Obj := { cls := .type "set", dict := none, data := .set #[] 0 (.fresh 0 0 (!X.w.params.followText "set-order")) }
theorem setC_core {pins : List (Addr × Obj)} {s : Shared} {σ : L2.St} {H : Hp} {Q : VK} {pos pos' : Pos} {use : Option (Value → Sem Unit)} {Qf : Value → Shared → Prop}
    (hc : X.calm = true) (hN : X.N.Nodup) (I : Inv X pins σ H s) (hi : PI X tg iter wi) (ok : BlkOk X.N X.env.scope scope own)
    (hg : ∀ (s : Shared) (H : Hp) (C : Addr) (cl : List (PySem.Str × Addr)) (fp : List Addr), PG (X.blk s H scope (compEnvC scope cl C X.env) fp) tg g)
    (ht : ∀ (s : Shared) (H : Hp) (C : Addr) (cl : List (PySem.Str × Addr)) (fp : List Addr), PTs (X.blk s H scope (compEnvC scope cl C X.env) fp) ifs tt)
    (he : ∀ (s : Shared) (H : Hp) (C : Addr) (cl : List (PySem.Str × Addr)) (fp : List Addr), PE (X.blk s H scope (compEnvC scope cl C X.env) fp) elt te)
    (hs : ∀ x, foldedSetIterable iter X.env x = pure x) (h : tSetC X.w wi g tt te (own.map (·.2)) σ H Q)
    (back : ∀ Da C s' m H', Inv X pins σ H' s' → Q (.ref Da) H' → s'.heap.Ns C m → FpOk X pins H' C → compPost (model X.prog X.w) X.A X.xe use Qf (.ref Da) C (.ok .next) s') :
    wpAny (model X.prog X.w) X.A (comprehension (.SetComp elt [⟨tg, iter, ifs, 0⟩] scope pos) scope X.env pos' (newSet (.type "set")) false (eval iter X.env) use) Qf X.xe s := by
  have fr : ∀ y ∈ scope.names, y.2 = .free → ∃ c, X.env.cells.lookup y.1 = some c := fun y hy e => (ok.free y hy e).elim (fun k => I.ok.has _ (.inl k)) fun k => I.ok.has _ (.inr k)
  refine wpAny_comprehension_free (use := use) rfl hs (closure_ok fr) ok.kind (fun y hy e => by rw [ok.uniq y hy, e]) (thn (hi.run pins s σ H _ I h) fun xv sa ha => thn ha fun iv sb hb => ?_)
  obtain ⟨it, fp, tn, J, H2, ev, I2, T, stb, fpb, q⟩ := hb
  subst ev
  refine PpSet.newSet_ok (newEnv_comp ?_)
  obtain ⟨P, ⟨m0, p0⟩, turn⟩ := q sb.heap.objs.size (I2.hok.fresh (Nat.le_refl _))
  generalize eDa : sb.heap.objs.size = Da at p0 turn
  generalize esc : ({ sb with heap := sb.heap.push (setObj X) } : Shared) = sc
  have hsc : sc.heap = sb.heap.push (setObj X) := by subst esc; rfl
  have I3 : Inv X pins σ (setStart X H2 Da) sc := by
    subst esc; subst eDa
    exact I2.laid (t' := sb.toks) (fun b o e => Heap.get?_push_of_some _ e) (Nat.le_refl _) (setO_new (setR_fresh X.w))
  have fp3 : ∀ b ∈ fp, FpOk X pins (setStart X H2 Da) b ∧ b < sc.heap.objs.size := fun b hb => by
    obtain ⟨o, e, _⟩ := T.obj _ _ stb b hb
    have lt := Heap.lt_size e
    exact ⟨⟨by rw [setStart, upd_ne (by rw [← eDa]; exact Nat.ne_of_lt lt)]; exact (fpb b hb).1, (fpb b hb).2⟩, by rw [hsc, Heap.size_push]; exact Nat.lt_succ_of_lt lt⟩
  have st3 : tn 0 sc.heap := T.keep _ _ _ stb fun b _ o e => by rw [hsc]; exact Heap.get?_push_of_some _ e
  change P 0 m0 (setStart X H2 Da) at p0
  generalize eHa : setStart X H2 Da = Ha at I3 fp3 p0
  have I4 := block_start I3 ok hN fp3
  have pg := hg sc Ha sc.heap.objs.size (cellsFrom (sc.heap.objs.size + 1) scope.names (cloFrom X.env.cells scope.names [])) fp
  have pt := ht sc Ha sc.heap.objs.size (cellsFrom (sc.heap.objs.size + 1) scope.names (cloFrom X.env.cells scope.names [])) fp
  have pe := he sc Ha sc.heap.objs.size (cellsFrom (sc.heap.objs.size + 1) scope.names (cloFrom X.env.cells scope.names [])) fp
  show codeAny _ _ (.compStart (.SetComp elt [⟨tg, iter, ifs, 0⟩] scope pos) 0 (.ref it) (.ref _) (compEnvC scope (cellsFrom (sc.heap.objs.size + 1) scope.names (cloFrom X.env.cells scope.names [])) sc.heap.objs.size X.env)) _ { sc with heap := pushCells (sc.heap.push { cls := .type "dict", data := .dict #[] }) scope.names }
  generalize ece : compEnvC scope (cellsFrom (sc.heap.objs.size + 1) scope.names (cloFrom X.env.cells scope.names [])) sc.heap.objs.size X.env = ce at I4 pg pt pe ⊢
  have ceL : ce.locals = sc.heap.objs.size := by subst ece; rfl
  generalize esd : ({ sc with heap := pushCells (sc.heap.push { cls := .type "dict", data := .dict #[] }) scope.names } : Shared) = sd at I4 ⊢
  have st4 : tn 0 sd.heap := T.keep _ _ _ st3 fun b _ o e => by subst esd; exact pushCells_keeps _ _ _ _ (Heap.get?_push_of_some _ e)
  let B := X.blk sc Ha scope ce fp
  have fpB : ∀ {σ' : L2.St} {H' : Hp} {s' : Shared}, Inv B [] σ' H' s' → (∀ b ∈ fp, H' b = none) → ∀ b ∈ fp, FpOk B [] H' b := fun {σ' H' s'} I' hn b hb =>
    ⟨hn b hb, (I'.ok.exf b hb).1, I'.ok.exfs b hb, .inl hb, fun x c e => (I'.ok.exf b hb).2 x c e, fun p hp => by cases (show p ∈ ([] : List (Addr × Obj)) ++ [] from hp)⟩
  let L : Nat → Shared → Prop := fun n s' => ∃ i H', Inv B [] (wipe σ (own.map (·.2))) H' s' ∧ tn i s'.heap ∧ (∀ b ∈ fp, H' b = none) ∧ P i n H'
  have loop : codeAny (model X.prog X.w) X.A (.compLoop (.SetComp elt [⟨tg, iter, ifs, 0⟩] scope pos) 0 (.ref it) (.ref Da) ce) (compPost (model X.prog X.w) X.A X.xe use Qf (.ref Da) sc.heap.objs.size) sd := by
    refine PpSet.compLoopS_any L ?_ m0 ⟨0, Ha, I4, st4, fun b hb => (fp3 b hb).1.1, p0⟩
    rintro n s5 ⟨i, H5, I5, st5, n5, p5⟩
    rcases turn i n H5 p5 with ⟨stop, fin⟩ | ⟨go, N, hN', step⟩
    · refine thnF (T.done B rfl rfl rfl hc i [] s5 _ H5 (fun _ _ => False) I5 (fpB I5 n5) st5 stop) fun r s6 ⟨hr, I6⟩ => ?_
      subst hr
      have I7 : Inv X pins σ H5 s6 := I3.call' (ch := fp) I6.os I6.base I6.hok I6.bare fun b hb => let f := (fp3 b hb).1; ⟨f.2.2.2.1, f.2.1, f.2.2.2.2.1, f.2.2.2.2.2⟩
      have nC : H5 sc.heap.objs.size = none := ceL ▸ (show H5 ce.locals = none from I6.free)
      obtain ⟨m, hn, _⟩ := I6.loc
      exact back Da _ s6 m H5 I7 fin (ceL ▸ (show s6.heap.Ns ce.locals m from hn)) (I3.fpOk (Nat.le_refl _) nC)
    · refine thnF (T.item B rfl rfl rfl hc i [] s5 _ H5 (fun _ _ => False) I5 (fpB I5 n5) st5 go) fun r s6 ⟨u, hr, h6⟩ => ?_
      subst hr
      refine thnF h6 fun _ s7 ⟨x, H7, I7, r7, y7, st7, n7⟩ => ?_
      refine thnF (pg.run _ s7 _ H7 x u _ (I7.pinned (fpB I7 n7) (T.obj _ _ st7)) r7 (step x H7 y7)) fun _ s8 ⟨σ8, H8, I8, w8, q8⟩ => ?_
      refine thnF (pt.run _ s8 σ8 H8 _ I8 q8) fun b s9 ⟨H9, I9, q9⟩ => ?_
      have next : ∀ {s' : Shared} {H' : Hp}, Inv B ([] ++ pinsAt fp s7.heap) σ8 H' s' → N H' → ∃ m, m < n ∧ L m s' := fun {s' H'} I' nx => by
        obtain ⟨m', lt, p'⟩ := hN' H' nx
        have pin : ∀ b ∈ fp, ∀ o, s7.heap.get? b = some o → s'.heap.get? b = some o ∧ H' b = none := fun b hb o e => by
          have z := I'.pin (b, o) (List.mem_append_right _ (List.mem_append_right _ (mem_pinsAt hb e)))
          exact ⟨z.1, z.2.1⟩
        refine ⟨m', lt, i + 1, H', (I'.unpinned (pins := [])).weak (by rw [← w8, wipe_length]) fun j v e => (wipe_some (w8 ▸ e)).1, T.keep _ _ _ st7 fun b hb o e => (pin b hb o e).1, fun b hb => ?_, p'⟩
        obtain ⟨o, e, _⟩ := T.obj _ _ st7 b hb
        exact (pin b hb o e).2
      cases b with
      | false =>
        simp only [Bool.false_eq_true, if_false] at q9 ⊢
        exact next I9 q9
      | true =>
        simp only [if_true] at q9 ⊢
        refine thnF (pe.run _ s9 σ8 H9 _ I9 q9) fun z s10 ⟨y, H10, I10, r10, q10⟩ => ?_
        refine thnF (mt_sadd (X := B) _ s10 σ8 H10 (.ref Da) [y] (.ref Da) [z] _ I10 rfl (.cons r10 .nil) q10) fun _ s11 ⟨v, H11, I11, rv, ev, nx⟩ => next I11 nx
  exact PpSet.codeAny_compStart_set loop (T.self X.A 0 _ _ _ st4 loop)
theorem pe_setC {pos : Pos} (hc : X.calm = true) (hN : X.N.Nodup) (hi : PI X tg iter wi) (ok : BlkOk X.N X.env.scope scope own)
    (hg : ∀ (s : Shared) (H : Hp) (C : Addr) (cl : List (PySem.Str × Addr)) (fp : List Addr), PG (X.blk s H scope (compEnvC scope cl C X.env) fp) tg g)
    (ht : ∀ (s : Shared) (H : Hp) (C : Addr) (cl : List (PySem.Str × Addr)) (fp : List Addr), PTs (X.blk s H scope (compEnvC scope cl C X.env) fp) ifs tt)
    (he : ∀ (s : Shared) (H : Hp) (C : Addr) (cl : List (PySem.Str × Addr)) (fp : List Addr), PE (X.blk s H scope (compEnvC scope cl C X.env) fp) elt te)
    (hs : ∀ x, foldedSetIterable iter X.env x = pure x := by intro _; rfl) : PE X (.SetComp elt [⟨tg, iter, ifs, 0⟩] scope pos) (tSetC X.w wi g tt te (own.map (·.2))) := ⟨fun pins s σ H Q I h => by
  rw [PpSet.eval_SetComp]
  refine setC_core hc hN I hi ok hg ht he hs h fun Da C s' m H' I' q hn f => ⟨m, hn, fun h2 sb => ?_⟩
  obtain ⟨f0, f1, f2, f3, f4, f5⟩ := f
  exact ⟨.ref Da, H', I'.turned (t' := s'.toks) (fun b o hb e => (sb.2 b hb).trans e) f0 f1 f3 f4 f5, rfl, q⟩⟩
end
/-! ### as data -/
/-- over the walk: the members so far -/
def setW (g : GD) (tt : FT) (fe : FE) (ds : DS) (k : Wk) : Nat → Nat → List Int → List D → R (List Int)
  | 0, _, acc, S => if k.fin S = true then .ok acc S else .stuck
  | m + 1, i, acc, S => match k.get i S with
    | none => .stuck
    | some d => match g d ds S with
      | none => .stuck
      | some ds' => match tt ds' S with
        | .ok true S1 => (match fe ds' S1 with
          | .ok (.int c) S2 => if acc.length + 1 < scanBound then setW g tt fe ds k m (i + 1) (if c ∈ acc then acc else acc ++ [c]) S2 else .stuck
          | _ => .stuck)
        | .ok false S1 => setW g tt fe ds k m (i + 1) acc S1
        | _ => .stuck
def setL (g : GD) (tt : FT) (fe : FE) (ds : DS) : List D → List Int → List D → R (List Int)
  | [], acc, S => .ok acc S
  | d :: xs, acc, S => match g d ds S with
    | none => .stuck
    | some ds' => match tt ds' S with
      | .ok true S1 => (match fe ds' S1 with
        | .ok (.int c) S2 => if acc.length + 1 < scanBound then setL g tt fe ds xs (if c ∈ acc then acc else acc ++ [c]) S2 else .stuck
        | _ => .stuck)
      | .ok false S1 => setL g tt fe ds xs acc S1
      | _ => .stuck
def eSetC (new : Bool) (fi : FI) (g : GD) (tt : FT) (fe : FE) (vs : List Nat) : FE := fun ds S => (fi ds S).bind fun k S1 => (setW g tt fe (wipeD ds vs) k k.n 0 [] S1).bind fun ys S2 =>
  if new = true then .ok (.loc S2.length) (S2 ++ [.set ys]) else .ok (.set ys) S2
theorem setW_list {g : GD} {tt : FT} {fe : FE} {ds : DS} {xs : List D} : ∀ (m i : Nat) (acc : List Int) (S : List D), i + m = xs.length → setW g tt fe ds (wkL xs) m i acc S = setL g tt fe ds (xs.drop i) acc S
  | 0, i, acc, S, h => by rw [List.drop_eq_nil_of_le (by omega)]; rfl
  | m + 1, i, acc, S, h => by
    have hl : i < xs.length := by omega
    rw [List.drop_eq_getElem_cons hl]
    unfold setW setL
    have e : (wkL xs).get i S = some xs[i] := by show xs[i]? = _; simp [hl]
    rw [e]
    dsimp only
    cases g xs[i] ds S with
    | none => rfl
    | some ds' =>
      dsimp only
      cases tt ds' S with
      | stuck => rfl
      | exc c ns fs S1 => rfl
      | ok b S1 =>
        cases b with
        | false => exact setW_list m (i + 1) acc S1 (by omega)
        | true =>
          dsimp only
          cases fe ds' S1 with
          | stuck => rfl
          | exc c ns fs S2 => rfl
          | ok y S2 =>
            cases y with
            | int c =>
              dsimp only
              split
              · exact setW_list m (i + 1) _ S2 (by omega)
              · rfl
            | _ => rfl
theorem eSetC_list {new : Bool} {fi : FI} {g : GD} {tt : FT} {fe : FE} {vs : List Nat} {ds : DS} {S S1 : List D} {xs : List D} (h : fi ds S = .ok (wkL xs) S1) :
    eSetC new fi g tt fe vs ds S = (setL g tt fe (wipeD ds vs) xs [] S1).bind fun ys S2 => if new = true then .ok (.loc S2.length) (S2 ++ [.set ys]) else .ok (.set ys) S2 := by
  unfold eSetC
  rw [h]
  show (setW g tt fe (wipeD ds vs) (wkL xs) xs.length 0 [] S1).bind _ = _
  rw [setW_list xs.length 0 [] S1 (by omega), List.drop_zero]
section
variable {E : En} {r r' : Reg} {H H' : Hp}
/-- what was hidden becomes an object of the store -/
abbrev Reg.own (r : Reg) (p : Addr) : Reg := ⟨r.l ++ [p], r.z.filter fun a => decide (a ≠ p)⟩
theorem same_own {p : Addr} (hz : p ∈ r.z) : Same3 r H (r.own p) H :=
  ⟨fun n a h => by rw [List.getElem?_append_left (List.getElem?_eq_some_iff.mp h).1]; exact h, fun a u n h => ⟨⟨fun q => by
    rcases List.mem_append.mp q with q | q
    · exact n.1 q
    · rw [List.mem_singleton.mp q] at n; exact n.2 hz, fun q => n.2 (mem_see (r := r) q).1⟩, h⟩⟩
theorem SOk.own {S : List D} {p : Addr} {d : D} (k : SOk E r H S) (hz : p ∈ r.z) (c : Cont E (r.own p) H p d) : SOk E (r.own p) H (S ++ [d]) := by
  refine ⟨by show (r.l ++ [p]).length = _; rw [List.length_append, List.length_append, k.len]; rfl, ?_, fun n a u h1 h2 => ?_, k.tb, fun a h => k.zal a (mem_see (r := r) h).1, fun a h q => ?_, fun a h => k.zc a (mem_see (r := r) h).1⟩
  · show (r.l ++ [p]).Nodup
    rw [List.nodup_append]
    refine ⟨k.nd, by simp, fun a ha b hb => ?_⟩
    rw [List.mem_singleton.mp hb]
    rintro rfl
    exact k.zl a hz ha
  · by_cases hn : n < r.l.length
    · rw [List.getElem?_append_left hn] at h1
      rw [List.getElem?_append_left (by rw [← k.len]; exact hn)] at h2
      exact (k.at_ n a u h1 h2).same (same_own hz) rfl
    · have e1 : n = r.l.length := by
        have := (List.getElem?_eq_some_iff.mp h1).1
        rw [List.length_append, List.length_singleton] at this
        omega
      subst e1
      rw [List.getElem?_append_right (Nat.le_refl _)] at h1
      rw [k.len, List.getElem?_append_right (Nat.le_refl _)] at h2
      simp at h1 h2
      subst h1; subst h2
      exact c
  · rcases List.mem_append.mp q with q | q
    · exact k.zl a (mem_see (r := r) h).1 q
    · exact (mem_see (r := r) h).2 (List.mem_singleton.mp q)
theorem Step.own {p : Addr} {r0 : Reg} {H0 : Hp} (s : Step r0 H0 r H) (hp : p ∉ r0.z) (hn : H0 p = none) : Step r0 H0 (r.own p) H := by
  obtain ⟨e, q1, q2⟩ := s.ex
  refine ⟨⟨e ++ [p], by show r.l ++ [p] = _; rw [q1, List.append_assoc], fun a ha => ?_⟩, s.kp, s.th, fun a h => List.mem_filter.mpr ⟨s.z1 a h, decide_eq_true fun q => hp (q ▸ h)⟩, fun a h => s.z2 a (mem_see (r := r) h).1, s.fz⟩
  rcases List.mem_append.mp ha with q | q
  · exact q2 a q
  · rw [List.mem_singleton.mp q]; exact hn
end
section
variable {E : En} {X : Cx} {W : WX} {pos : Pos} {elt tg iter : Expr} {ifs : List Expr} {scope : Scope} {own : List (Str × Nat)} {fi : FI} {g : GD} {tt : FT} {fe : FE} {tgt : TG} {new : Bool}
theorem code_ne_setO {w : World} {Da : Addr} {T : Int → Bool} {n : Nat} (q : Str) : SetO w Da T n ≠ LamX.CodeO Da q := fun e => code_ne_set e.symm
theorem sc_core {σ : L2.St} {H : Hp} {Q : VK} {vs : List Nat} (hown : TOwn tgt vs) (hgt : ∀ v σ H Q, tG E g v σ H Q → tgt v σ H Q) (q : tD E W (eSetC new fi g tt fe vs) σ H Q) : tSetC E.w (tDI E W fi) tgt (tDT E W0 tt) (tD E W0 fe) vs σ H Q := by
  obtain ⟨r, ds, S, p, o, s⟩ := q
  refine ⟨r, ds, S, p, o, ?_⟩
  unfold eSetC at s
  cases hf : fi ds S with
  | stuck => rw [hf] at s; exact s.elim
  | exc c ns fs S1 => rw [hf] at s; exact s
  | ok k S1 =>
    rw [hf] at s
    dsimp only [R.bind_ok] at s ⊢
    intro J H1 r1 st1 o1 it Da hDa
    have nz : Da ∉ r1.z := fun h => (o1.zal Da h).1 hDa
    have nz0 : Da ∉ r.z := fun h => nz (st1.z1 Da h)
    have hD0 : H Da = none := Classical.byContradiction fun q => st1.th Da q hDa
    let rest : Nat → Nat → List Int → List D → R D := fun m i acc S' => (setW g tt fe (wipeD ds vs) k m i acc S').bind fun ys S2 => if new = true then .ok (.loc S2.length) (S2 ++ [.set ys]) else .ok (.set ys) S2
    let at_ : List Int → Hp → Prop := fun acc H' => H' Da = some (SetO E.w Da (fun i => decide (i ∈ acc)) acc.length) ∧ acc.Nodup
    have e0 : (fun i => decide (i ∈ ([] : List Int))) = fun _ => false := by funext i; simp
    refine ⟨fun i m H' => i + m = k.n ∧ ∃ r' S' acc, Step r1 H1 r' H' ∧ Da ∈ r'.z ∧ SOk E r' H' S' ∧ at_ acc H' ∧ SRep E r' H' (wipeD ds vs) (wipe σ vs) ∧ Sat E r H (rest m i acc S') Q (fun c dx H' => W c dx σ H'),
      ⟨k.n, by omega, r1.hide Da, S1, [], Step.hide hDa, List.mem_cons_self, o1.hide hDa (fun _ q => nomatch q) code_ne_setO, ⟨by rw [upd_same, e0]; rfl, by simp⟩, ((p.mono st1).wipe vs).mono (Step.hide hDa), s⟩, ?_⟩
    rintro i m H' ⟨hm, r', S', acc, st', hz, o', hD, p', s'⟩
    have q := it i r' H' S' st' o'
    cases m with
    | zero =>
      dsimp only [rest] at s'
      unfold setW at s'
      split at s'
      · refine .inl ⟨q.1 (by omega) (by assumption), ?_⟩
        dsimp only [R.bind_ok] at s'
        cases new with
        | true =>
          rw [if_pos rfl] at s'
          have ow := o'.own (d := .set acc) hz ⟨hD.1, hD.2⟩
          exact s' (.ref Da) H' (r'.own Da) ((st1.trans st').own nz0 hD0) ow (rep_loc.mpr ⟨Da, by show (r'.l ++ [Da])[S'.length]? = _; rw [← o'.len, List.getElem?_append_right (Nat.le_refl _)]; simp, rfl⟩)
        | false =>
          rw [if_neg (by decide)] at s'
          exact s' (.ref Da) H' (r'.see Da) ((st1.trans st').see nz0) o'.seen (rep_set.mpr ⟨Da, rfl, ⟨o'.zl Da hz, fun h => (mem_see h).2 rfl⟩, hD.1, hD.2⟩)
      · exact s'.elim
    | succ m =>
      dsimp only [rest] at s'
      unfold setW at s'
      cases hget : k.get i S' with
      | none => rw [hget] at s'; exact s'.elim
      | some d =>
      rw [hget] at s'
      dsimp only at s'
      obtain ⟨hgo, hy⟩ := q.2 d (by omega) hget
      refine .inr ⟨hgo, fun H' => ∃ r' S' acc, Step r1 H1 r' H' ∧ Da ∈ r'.z ∧ SOk E r' H' S' ∧ at_ acc H' ∧ SRep E r' H' (wipeD ds vs) (wipe σ vs) ∧ Sat E r H (rest m (i + 1) acc S') Q (fun c dx H' => W c dx σ H'),
        fun H2 h => ⟨m, by omega, by omega, h⟩, fun x H2 hx => ?_⟩
      obtain ⟨st2, o2, rp⟩ := hy x H2 hx
      have hD2 : at_ acc H2 := ⟨st2.kp Da _ hD.1 (o'.zl Da hz) (fun _ q => nomatch q), hD.2⟩
      cases hgd : g d (wipeD ds vs) S' with
      | none => rw [hgd] at s'; exact s'.elim
      | some ds2 =>
        rw [hgd] at s'
        dsimp only at s'
        have own' := fun Q => hown x (wipe σ vs) H2 Q
        rw [wipe_idem] at own'
        refine own' _ (hgt _ _ _ _ ⟨r', d, wipeD ds vs, S', p'.mono st2, o2, rp, ds2, hgd, fun σ2 p2 => ?_⟩)
        refine ⟨r', ds2, S', p2, o2, ?_⟩
        cases ht : tt ds2 S' with
        | stuck => rw [ht] at s'; exact s'.elim
        | exc c ns fs S3 => rw [ht] at s'; exact s'.elim
        | ok b S3 =>
          rw [ht] at s'
          intro H3 r3 st3 o3
          have hz3 := st3.z1 Da hz
          have hD3 : at_ acc H3 := ⟨st3.kp Da _ hD2.1 (o'.zl Da hz) (fun _ q => nomatch q), hD.2⟩
          have sall := (st'.trans st2).trans st3
          cases b with
          | false =>
            rw [if_neg (by decide)]
            exact ⟨r3, S3, acc, sall, hz3, o3, hD3, (p'.mono st2).mono st3, s'⟩
          | true =>
            rw [if_pos rfl]
            dsimp only at s'
            refine ⟨r3, ds2, S3, p2.mono st3, o3, ?_⟩
            cases he : fe ds2 S3 with
            | stuck => rw [he] at s'; exact s'.elim
            | exc c ns fs S4 => rw [he] at s'; exact s'.elim
            | ok y S4 =>
              rw [he] at s'
              cases y with
              | int c =>
                dsimp only at s'
                intro yv H4 r4 st4 o4 ry
                rw [rep_int.mp ry]
                have hz4 := st4.z1 Da hz3
                have hD4 : at_ acc H4 := ⟨st4.kp Da _ hD3.1 (o3.zl Da hz3) (fun _ q => nomatch q), hD.2⟩
                split at s'
                · rename_i hlen
                  have ef : (fun j => decide (j ∈ acc) || decide (j = c)) = fun j => decide (j ∈ (if c ∈ acc then acc else acc ++ [c])) := by
                    funext j
                    split
                    · rename_i hk
                      by_cases hj : j = c
                      · subst hj; simp [hk]
                      · simp [hj]
                    · simp
                  have en : (if decide (c ∈ acc) = true then acc.length else acc.length + 1) = (if c ∈ acc then acc else acc ++ [c]).length := by
                    by_cases hk : c ∈ acc <;> simp [hk]
                  have nd' : (if c ∈ acc then acc else acc ++ [c]).Nodup := by
                    split
                    · exact hD.2
                    · rename_i hk
                      rw [List.nodup_append]
                      exact ⟨hD.2, by simp, fun p hp q hq => by rw [List.mem_singleton.mp hq]; rintro rfl; exact hk hp⟩
                  refine ⟨Da, c, _, _, rfl, rfl, hD4.1, hlen, rfl, r4, S4, if c ∈ acc then acc else acc ++ [c], ?_, hz4, o4.zput hz4 (fun _ q => nomatch q) code_ne_setO, ⟨by rw [upd_same, ef, en], nd'⟩, ?_, s'⟩
                  · have sa := sall.trans st4
                    refine ⟨sa.ex, fun a u h hr ht => ?_, fun a h => ?_, sa.z1, sa.z2, fun a x u h => by rw [upd_ne (fun (e : a = Da) => by rw [e, hDa] at h; cases h)]; exact sa.fz a x u h⟩
                    · rw [upd_ne (fun (e : a = Da) => by rw [e, hDa] at h; cases h)]
                      exact sa.kp a u h hr ht
                    · by_cases e : a = Da
                      · rw [e, upd_same]; exact fun z => nomatch z
                      · rw [upd_ne e]; exact sa.th a h
                  · exact (((p'.mono st2).mono st3).mono st4).same (same_zput hz4)
                · exact s'.elim
              | _ => exact s'.elim
theorem de_setC (hw : E.w = X.w) (hc : X.calm = true) (hN : X.N.Nodup) (hi : DI E X W tg iter fi) (ok : BlkOk X.N X.env.scope scope own) (hown : TOwn tgt (own.map (·.2))) (hgt : ∀ v σ H Q, tG E g v σ H Q → tgt v σ H Q)
    (hg : ∀ (s : Shared) (H : Hp) (C : Addr) (cl : List (Str × Addr)) (fp : List Addr), PG (X.blk s H scope (compEnvC scope cl C X.env) fp) tg tgt) (ht : ∀ (s : Shared) (H : Hp) (C : Addr) (cl : List (Str × Addr)) (fp : List Addr), DTs E (X.blk s H scope (compEnvC scope cl C X.env) fp) W0 ifs tt)
    (he : ∀ (s : Shared) (H : Hp) (C : Addr) (cl : List (Str × Addr)) (fp : List Addr), DE E (X.blk s H scope (compEnvC scope cl C X.env) fp) W0 elt fe) (hs : ∀ x, foldedSetIterable iter X.env x = pure x := by intro _; rfl) :
    DE E X W (.SetComp elt [⟨tg, iter, ifs, 0⟩] scope pos) (eSetC new fi g tt fe (own.map (·.2))) :=
  (pe_setC hc hN hi ok hg ht he hs).imp fun σ H Q q => hw ▸ sc_core hown hgt q
end
end Dl

set_option Elab.async false
set_option linter.all false
set_option maxRecDepth 100000
set_option maxHeartbeats 4000000
/-! Dl11: what a caller need not see of a def's store; defs by name. -/
namespace Dl
open PySem PySem.Spec PyProof.Rows L2

/-! ### places below n alone -/
mutual
def bd (n : Nat) : D → Bool
  | .tup ds => bdL n ds
  | .lst ds => bdL n ds
  | .dic _ ds => bdL n ds
  | .obj _ _ ds => bdL n ds
  | .lkd _ ds => bdL n ds
  | .loc m => decide (m < n)
  | _ => true
def bdL (n : Nat) : List D → Bool
  | [] => true
  | d :: ds => bd n d && bdL n ds
end
def bdS (S : List D) : Prop := ∀ d ∈ S, bd S.length d = true
theorem bdL_iff {n : Nat} : ∀ {ds : List D}, bdL n ds = true ↔ ∀ d ∈ ds, bd n d = true
  | [] => by unfold bdL; simp
  | d :: ds => by unfold bdL; rw [Bool.and_eq_true, bdL_iff]; simp
theorem bdL_ints (n : Nat) (ns : List Int) : bdL n (ns.map .int) = true := bdL_iff.mpr fun d h => by
  obtain ⟨i, _, rfl⟩ := List.mem_map.mp h
  rfl
theorem bdS_set {S : List D} {i : Nat} {d : D} (h : bdS S) (hd : bd S.length d = true) : bdS (S.set i d) := fun e he => by
  rw [List.length_set]
  rcases List.mem_or_eq_of_mem_set he with q | q
  · exact h e q
  · rw [q]; exact hd
section
variable {E : En} {r : Reg} {H : Hp}
mutual
theorem Rep.bd : ∀ {d : D} {v : V}, Rep E r H d v → bd r.l.length d = true
  | .non, _, h => by unfold Dl.bd; rfl
  | .bl _, _, h => by unfold Dl.bd; rfl
  | .int _, _, h => by unfold Dl.bd; rfl
  | .str _, _, h => by unfold Dl.bd; rfl
  | .scr _, _, h => by unfold Dl.bd; rfl
  | .set _, _, h => by unfold Dl.bd; rfl
  | .tup ds, _, h => by obtain ⟨_, _, _, _, l⟩ := rep_tup.mp h; unfold Dl.bd; exact RepL.bd l
  | .lst ds, _, h => by obtain ⟨_, _, _, _, l⟩ := rep_lst.mp h; unfold Dl.bd; exact RepL.bd l
  | .dic ks ds, _, h => by obtain ⟨_, _, _, _, _, _, l⟩ := rep_dic.mp h; unfold Dl.bd; exact RepL.bd l
  | .obj c ns ds, _, h => by obtain ⟨_, _, _, _, _, _, _, l⟩ := rep_obj.mp h; unfold Dl.bd; exact RepL.bd l
  | .loc n, _, h => by obtain ⟨_, q, _⟩ := rep_loc.mp h; unfold Dl.bd; exact decide_eq_true (List.getElem?_eq_some_iff.mp q).1
  | .lkd _ _, _, h => (rep_lkd h).elim
theorem RepL.bd : ∀ {ds : List D} {vs : List V}, RepL E r H ds vs → bdL r.l.length ds = true
  | [], _, h => by unfold bdL; rfl
  | d :: ds, _, h => by
    obtain ⟨v, ws, _, h1, h2⟩ := repL_cons.mp h
    unfold bdL
    rw [Rep.bd h1, RepL.bd h2]
    rfl
end
theorem Cont.bd {a : Addr} : ∀ {d : D}, Cont E r H a d → bd r.l.length d = true
  | .lst _, h => by obtain ⟨_, _, l⟩ := h; unfold Dl.bd; exact l.bd
  | .dic _ _, h => by obtain ⟨_, _, _, l⟩ := h; unfold Dl.bd; exact l.bd
  | .set _, h => by unfold Dl.bd; rfl
  | .obj _ _ _, h => by obtain ⟨_, _, _, _, l⟩ := h; unfold Dl.bd; exact l.bd
  | .lkd _ _, h => by obtain ⟨_, _, _, _, l⟩ := h; unfold Dl.bd; exact l.bd
  | .non, h => h.elim
  | .bl _, h => h.elim
  | .int _, h => h.elim
  | .str _, h => h.elim
  | .tup _, h => h.elim
  | .loc _, h => h.elim
  | .scr _, h => h.elim
theorem SOk.bds {S : List D} (o : SOk E r H S) : bdS S := fun d hd => by
  obtain ⟨n, hn, e⟩ := List.getElem_of_mem hd
  have hr : n < r.l.length := by rw [o.len]; exact hn
  rw [← o.len]
  exact (o.at_ n r.l[n] d (by simp [hr]) (by rw [← e]; simp [hn])).bd
/-- the region without the later places -/
abbrev Reg.cut (r : Reg) (n : Nat) : Reg := ⟨r.l.take n, r.z⟩
theorem Reg.out_cut {a : Addr} {n : Nat} (h : r.out a) : (r.cut n).out a := ⟨fun q => h.1 (List.mem_of_mem_take q), h.2⟩
mutual
theorem Rep.cut {n : Nat} : ∀ {d : D} {v : V}, Rep E r H d v → Dl.bd n d = true → Rep E (r.cut n) H d v
  | .non, _, h, _ => rep_non.mpr (rep_non.mp h)
  | .bl _, _, h, _ => rep_bl.mpr (rep_bl.mp h)
  | .int _, _, h, _ => rep_int.mpr (rep_int.mp h)
  | .str _, _, h, _ => rep_str.mpr (rep_str.mp h)
  | .scr _, _, h, _ => by obtain ⟨a, e, t⟩ := rep_scr.mp h; exact rep_scr.mpr ⟨a, e, t.elim (fun t => .inl ⟨Reg.out_cut t.1, t.2⟩) .inr⟩
  | .set _, _, h, _ => by obtain ⟨a, e, q, t⟩ := rep_set.mp h; exact rep_set.mpr ⟨a, e, Reg.out_cut q, t⟩
  | .tup ds, _, h, b => by
    obtain ⟨a, vs, e, t, l⟩ := rep_tup.mp h
    unfold Dl.bd at b
    exact rep_tup.mpr ⟨a, vs, e, t.elim (fun t => .inl ⟨Reg.out_cut t.1, t.2⟩) .inr, RepL.cut l b⟩
  | .lst ds, _, h, b => by
    obtain ⟨a, vs, e, t, l⟩ := rep_lst.mp h
    unfold Dl.bd at b
    exact rep_lst.mpr ⟨a, vs, e, ⟨Reg.out_cut t.1, t.2⟩, RepL.cut l b⟩
  | .dic ks ds, _, h, b => by
    obtain ⟨a, vs, e, t, q, k, l⟩ := rep_dic.mp h
    unfold Dl.bd at b
    exact rep_dic.mpr ⟨a, vs, e, Reg.out_cut t, q, k, RepL.cut l b⟩
  | .obj c ns ds, _, h, b => by
    obtain ⟨a, dx, vs, e, t, q, k, l⟩ := rep_obj.mp h
    unfold Dl.bd at b
    exact rep_obj.mpr ⟨a, dx, vs, e, Reg.out_cut t, q, k, RepL.cut l b⟩
  | .loc m, _, h, b => by
    obtain ⟨a, q, e⟩ := rep_loc.mp h
    unfold Dl.bd at b
    exact rep_loc.mpr ⟨a, by rw [List.getElem?_take, if_pos (of_decide_eq_true b)]; exact q, e⟩
  | .lkd _ _, _, h, _ => (rep_lkd h).elim
theorem RepL.cut {n : Nat} : ∀ {ds : List D} {vs : List V}, RepL E r H ds vs → bdL n ds = true → RepL E (r.cut n) H ds vs
  | [], _, h, _ => repL_nil.mpr (repL_nil.mp h)
  | d :: ds, _, h, b => by
    obtain ⟨v, ws, e, h1, h2⟩ := repL_cons.mp h
    unfold bdL at b
    rw [Bool.and_eq_true] at b
    exact repL_cons.mpr ⟨v, ws, e, Rep.cut h1 b.1, RepL.cut h2 b.2⟩
end
theorem Cont.cut {n : Nat} {a : Addr} : ∀ {d : D}, Cont E r H a d → Dl.bd n d = true → Cont E (r.cut n) H a d
  | .lst _, h, b => by obtain ⟨vs, q, l⟩ := h; unfold Dl.bd at b; exact ⟨vs, q, l.cut b⟩
  | .dic _ _, h, b => by obtain ⟨kvs, q, k, l⟩ := h; unfold Dl.bd at b; exact ⟨kvs, q, k, l.cut b⟩
  | .set _, h, _ => h
  | .obj _ _ _, h, b => by obtain ⟨dx, fs, q, k, l⟩ := h; unfold Dl.bd at b; exact ⟨dx, fs, q, k, l.cut b⟩
  | .lkd _ _, h, b => by obtain ⟨x, kvs, q, k, l⟩ := h; unfold Dl.bd at b; exact ⟨x, kvs, q, k, l.cut b⟩
  | .non, h, _ => h.elim
  | .bl _, h, _ => h.elim
  | .int _, h, _ => h.elim
  | .str _, h, _ => h.elim
  | .tup _, h, _ => h.elim
  | .loc _, h, _ => h.elim
  | .scr _, h, _ => h.elim
theorem SOk.cut {S J : List D} (o : SOk E r H (S ++ J)) (b : bdS S) : SOk E (r.cut S.length) H S := by
  have hl : S.length ≤ r.l.length := by rw [o.len, List.length_append]; omega
  refine ⟨by show (r.l.take S.length).length = _; rw [List.length_take]; omega, o.nd.sublist (List.take_sublist _ _), fun n a d h1 h2 => ?_, o.tb, o.zal, fun a h q => o.zl a h (List.mem_of_mem_take q), o.zc⟩
  have hn : n < S.length := (List.getElem?_eq_some_iff.mp h2).1
  rw [List.getElem?_take, if_pos hn] at h1
  exact (o.at_ n a d h1 (by rw [List.getElem?_append_left hn]; exact h2)).cut (b d (List.mem_of_getElem? h2))
theorem Step.cut {r' : Reg} {H' : Hp} {n : Nat} (s : Step r H r' H') (hn : r.l.length ≤ n) : Step r H (r'.cut n) H' := by
  obtain ⟨e, q1, q2⟩ := s.ex
  refine ⟨⟨e.take (n - r.l.length), by show r'.l.take n = _; rw [q1, List.take_append, List.take_of_length_le hn], fun a h => q2 a (List.mem_of_mem_take h)⟩, s.kp, s.th, s.z1, s.z2, s.fz⟩
end
/-! ### what is new may be taken as frozen -/
mutual
inductive Fz (n : Nat) (J : List D) : D → D → Prop
  | same {d : D} (h : bd n d = true) : Fz n J d d
  | tup {ds es : List D} (h : FzL n J ds es) : Fz n J (.tup ds) (.tup es)
  | lst {ds es : List D} (h : FzL n J ds es) : Fz n J (.lst ds) (.lst es)
  | loc {m : Nat} {ds es : List D} (hm : n ≤ m) (hj : J[m - n]? = some (.lst ds)) (h : FzL n J ds es) : Fz n J (.loc m) (.lst es)
  | dic {m : Nat} {ks : List Key} {ds es : List D} (hm : n ≤ m) (hj : J[m - n]? = some (.dic ks ds)) (h : FzL n J ds es) : Fz n J (.loc m) (.dic ks es)
  | set {m : Nat} {xs : List Int} (hm : n ≤ m) (hj : J[m - n]? = some (.set xs)) : Fz n J (.loc m) (.set xs)
inductive FzL (n : Nat) (J : List D) : List D → List D → Prop
  | nil : FzL n J [] []
  | cons {d e : D} {ds es : List D} (h : Fz n J d e) (t : FzL n J ds es) : FzL n J (d :: ds) (e :: es)
end
theorem FzL.same {n : Nat} {J : List D} : ∀ {ds : List D}, bdL n ds = true → FzL n J ds ds
  | [], _ => .nil
  | d :: ds, h => by
    unfold bdL at h
    rw [Bool.and_eq_true] at h
    exact .cons (.same h.1) (FzL.same h.2)
section
variable {E : En} {r : Reg} {H : Hp} {S J : List D}
theorem loc_out {m : Nat} {a : Addr} (o : SOk E r H (S ++ J)) (q : r.l[m]? = some a) (hm : S.length ≤ m) : (r.cut S.length).out a := by
  refine ⟨fun h => ?_, fun h => o.zl a h (List.mem_of_getElem? q)⟩
  obtain ⟨i, hi⟩ := List.mem_iff_getElem?.mp h
  rw [List.getElem?_take] at hi
  split at hi
  · have := nodup_get o.nd hi q
    omega
  · cases hi
theorem J_at {m : Nat} {d : D} (hm : S.length ≤ m) (hj : J[m - S.length]? = some d) : (S ++ J)[m]? = some d := by
  rw [List.getElem?_append_right hm]; exact hj
mutual
theorem Fz.rep (o : SOk E r H (S ++ J)) : ∀ {d e : D} {v : V}, Fz S.length J d e → Rep E r H d v → Rep E (r.cut S.length) H e v
  | _, _, v, .same h, rp => rp.cut h
  | _, _, v, .tup h, rp => by
    obtain ⟨a, vs, e, t, l⟩ := rep_tup.mp rp
    exact rep_tup.mpr ⟨a, vs, e, t.elim (fun t => .inl ⟨Reg.out_cut t.1, t.2⟩) .inr, FzL.rep o h l⟩
  | _, _, v, .lst h, rp => by
    obtain ⟨a, vs, e, t, l⟩ := rep_lst.mp rp
    exact rep_lst.mpr ⟨a, vs, e, ⟨Reg.out_cut t.1, t.2⟩, FzL.rep o h l⟩
  | _, _, v, .loc hm hj h, rp => by
    obtain ⟨a, q, e⟩ := rep_loc.mp rp
    obtain ⟨vs, e1, l⟩ := o.at_ _ a _ q (J_at hm hj)
    exact rep_lst.mpr ⟨a, vs, e, ⟨loc_out o q hm, e1⟩, FzL.rep o h l⟩
  | _, _, v, .dic hm hj h, rp => by
    obtain ⟨a, q, e⟩ := rep_loc.mp rp
    obtain ⟨kvs, e1, e2, l⟩ := o.at_ _ a _ q (J_at hm hj)
    exact rep_dic.mpr ⟨a, kvs, e, loc_out o q hm, e1, e2, FzL.rep o h l⟩
  | _, _, v, .set hm hj, rp => by
    obtain ⟨a, q, e⟩ := rep_loc.mp rp
    obtain ⟨e1, e2⟩ := o.at_ _ a _ q (J_at hm hj)
    exact rep_set.mpr ⟨a, e, loc_out o q hm, e1, e2⟩
theorem FzL.rep (o : SOk E r H (S ++ J)) : ∀ {ds es : List D} {vs : List V}, FzL S.length J ds es → RepL E r H ds vs → RepL E (r.cut S.length) H es vs
  | _, _, vs, .nil, rl => repL_nil.mpr (repL_nil.mp rl)
  | _, _, vs, .cons h t, rl => by
    obtain ⟨v, ws, e, h1, h2⟩ := repL_cons.mp rl
    exact repL_cons.mpr ⟨v, ws, e, Fz.rep o h h1, FzL.rep o t h2⟩
end
end
/-- y says less than x: places behind S' are not seen -/
inductive Less (n : Nat) : R D → R D → Prop
  | stuck {x : R D} : Less n x .stuck
  | ok {d e : D} {S' J : List D} (hn : n ≤ S'.length) (hb : bdS S') (h : Fz S'.length J d e) : Less n (.ok d (S' ++ J)) (.ok e S')
  | exc {c : Nat} {ns : List Str} {fs es : List D} {S' J : List D} (hn : n ≤ S'.length) (hb : bdS S') (h : FzL S'.length J fs es) : Less n (.exc c ns fs (S' ++ J)) (.exc c ns es S')
theorem Less.refl {n : Nat} {d : D} {S : List D} (hn : n ≤ S.length) (hb : bdS S) (hd : bd S.length d = true) : Less n (.ok d S) (.ok d S) := by
  have := Less.ok (n := n) (d := d) (J := []) hn hb (.same hd)
  rwa [List.append_nil] at this
section
variable {P : Program} {w : World} {K : PySem.W.Frag} {mg : Str → Option Value} {base : Heap} {f : Addr} {fd : FuncData} {ps : List Str} {E : En} {n : Nat} {F F' : FD}
theorem spD_less (h : ∀ args S, args.length = n → bdS S → bdL S.length args = true → Less S.length (F args S) (F' args S)) (vs : List V) (H : Hp) (Q : VK) (Ex : XK) (q : spD E n F' vs H Q Ex) : spD E n F vs H Q Ex := by
  obtain ⟨r, args, S, hl, rl, o, s⟩ := q
  have lb : bdL S.length args = true := by rw [← o.len]; exact rl.bd
  refine ⟨r, args, S, hl, rl, o, ?_⟩
  have le := h args S hl o.bds lb
  generalize F args S = x at le
  generalize F' args S = y at le s
  cases le with
  | stuck => exact s.elim
  | ok hn hb hz =>
    intro v H' r' st o' rp
    exact s v H' _ (st.cut (by rw [o.len]; exact hn)) (o'.cut hb) (hz.rep o' rp)
  | exc hn hb hz =>
    intro dx H' r' st o' x
    refine s dx H' _ (st.cut (by rw [o.len]; exact hn)) (o'.cut hb) ?_
    rcases x with ⟨e1, e2, e3⟩ | ⟨d, ps, e1, e2, e3, e4, l⟩
    · subst e2
      cases hz
      exact .inl ⟨e1, rfl, e3⟩
    · exact .inr ⟨d, ps, e1, Reg.out_cut e2, e3, e4, hz.rep o' l⟩
/-- a def by its name: it does what F does -/
structure DefOk (P : Program) (w : World) (K : PySem.W.Frag) (mg : Str → Option Value) (base : Heap) (E : En) (x : Str) (ps : List Str) (k : Nat) (F : FD) : Prop where
  ex : ∃ f fd, FnG P w K mg base k f fd ps (spD E ps.length F) ∧ mg x = some (.ref f) ∧ PySem.W.keepIn K (.ref f) = true ∧ Binds K fd ps []
theorem DefOk.less {x : Str} {k : Nat} (D : DefOk P w K mg base E x ps k F) (h : ∀ args S, args.length = ps.length → bdS S → bdL S.length args = true → Less S.length (F args S) (F' args S)) : DefOk P w K mg base E x ps k F' := by
  obtain ⟨f, fd, G, a, b, c⟩ := D.ex
  exact ⟨f, fd, G.imp (spD_less h), a, b, c⟩
theorem DefOk.mono {x : Str} {j k : Nat} (D : DefOk P w K mg base E x ps j F) (h : j ≤ k) : DefOk P w K mg base E x ps k F := by
  obtain ⟨f, fd, G, a, b, c⟩ := D.ex
  exact ⟨f, fd, G.mono h, a, b, c⟩
end
/-! ### calls of defs by name -/
section
variable {E : En} {X : Cx} {W : WX} {k j : Nat} {ps : List Str} {F : FD} {x : Str} {p pos : Pos} {e : Expr} {es : List Expr} {g : FA}
theorem de_def (G : DefOk X.prog X.w X.K X.mg X.base E x ps j F) (hr : Room k X.A) (hgu : X.A.guards = some []) (tk : Takes X W) (hg : Gl X x) (ha : DA E X W (e :: es) g) (hgl : ∀ ds S ls S', g ds S = .ok ls S' → ls.length = (e :: es).length) (hjk : j ≤ k := by decide) (hn : (e :: es).length = ps.length := by rfl) (hdb : (x == ("__debug__" : Str)) = false := by decide)
    (he : starEach (e :: es) X.env = (false, eval e X.env) :: starEach es X.env := by rfl) (hpl : (backTo pos (starEach es X.env)).any (·.1) = false := by rfl) : DE E X W (.Call (.Name x p) (e :: es) [] pos) (eFn F g) := by
  obtain ⟨f, fd, G, a, b, c⟩ := G.ex
  exact de_fn (G.mono hjk) hr hgu tk hg a b c hn ha hgl hdb he hpl
theorem de_def0 (G : DefOk X.prog X.w X.K X.mg X.base E x [] j F) (hr : Room k X.A) (hgu : X.A.guards = some []) (tk : Takes X W) (hg : Gl X x) (hjk : j ≤ k := by decide) (hdb : (x == ("__debug__" : Str)) = false := by decide) : DE E X W (.Call (.Name x p) [] [] pos) (eFn F aNil) := by
  obtain ⟨f, fd, G, a, b, c⟩ := G.ex
  exact de_fn0 (G.mono hjk) hr hgu tk hg a b c hdb
/-! ### new dicts, sets -/
def eDict : FE := fun _ S => .ok (.loc S.length) (S ++ [.dic [] []])
theorem de_dict : DE E X W (.Dict [] [] pos) eDict := pe_dnewK.imp fun σ H Q ⟨r, ds, S, p, o, s⟩ a ha => by
  exact s _ _ (r.add a) (Step.add ha) (o.add ha ⟨[], upd_same, rfl, repL_nil.mpr rfl⟩) (rep_loc.mpr ⟨a, by show (r.l ++ [a])[S.length]? = _; rw [← o.len, List.getElem?_append_right (Nat.le_refl _)]; simp, rfl⟩)
/-- a constant of the module -/
theorem de_glob {v : V} {u : Value} {d : D} (hg : Gl X x) (hm : X.mg x = some u) (r : RelV v u) (hr : ∀ r H, Rep E r H d v) (hd : (x == ("__debug__" : Str)) = false := by decide) : DE E X W (.Name x p) (eC d) := de_c (pe_glob hg hm r hd) hr
end
end Dl

set_option Elab.async false
set_option linter.all false
set_option maxRecDepth 100000
set_option maxHeartbeats 4000000
/-! Dl12: a law's end, from its def as a function on data. -/
namespace Dl
open PySem PySem.Spec PyProof.Rows L2

/-- the abstract heap at the law's call: the script alone, where it is no object of the text -/
def scrHp (K : PySem.W.Frag) (a : Addr) (ob : Obj) (ns : List Int) : Hp := fun b => if b = a ∧ K.lookup a = none then some (.frz ob (.lst (ns.map V.int))) else none
theorem scrHp_some {K : PySem.W.Frag} {a b : Addr} {ob : Obj} {ns : List Int} {u : HO} (h : scrHp K a ob ns b = some u) : b = a ∧ K.lookup a = none ∧ u = .frz ob (.lst (ns.map V.int)) := by
  unfold scrHp at h
  split at h
  · rename_i q; cases h; exact ⟨q.1, q.2, rfl⟩
  · cases h
theorem law_go {P : Program} {w : World} {K : PySem.W.Frag} {mg mb : Str → Option Value} {k : Nat} {fa a : Addr} {fd : FuncData} {x : Str} {sp : Sp} {s : Shared} {vs : List Value} {ns : List Int}
    (KX : K.In s.heap) (hns : s.heap.Ns mainGlobals mg) (hb : s.heap.Ns builtinsNs mb) (hbb : ∀ x : Str, x ≠ "__name__" → mb x = bootBuiltins x) (hlim : s.heap.NoLimit) (hg : s.gens = #[])
    (ha : s.heap.get? a = some { cls := .type "list", data := .seq vs.toArray }) (hi : IntsAre vs ns) (hl : ns.length ≤ sizeLine) (hr : Room k callerA)
    (F : ∀ base : Heap, K.In base → base.Ns mainGlobals mg → FnG P w K mg base k fa fd [x] sp) (hbind : ∀ (s : Shared) (u : Value), BindsTo s fd ⟨[u], []⟩ [(x, u)])
    (hsp : ∀ H : Hp, H = scrHp K a { cls := .type "list", data := .seq vs.toArray } ns → SqL K H a (ns.map V.int) → (K.lookup a ≠ none → SqL K (fun _ => none) a (ns.map V.int)) → sp [.ref a] H (fun v _ => v = .bl true) fun _ _ _ => False) :
    codeAny (model P w) callerA (.call (.ref fa) ⟨[.ref a], []⟩) (fun r s' => r = .ok (.ret (.bool true)) ∧ OldK s.heap s'.heap ∧ s'.os = s.os ∧ AllBare s'.gens) s := by
  have rv := vals_ints hi
  have lenV := hi.length
  generalize eob : ({ cls := .type "list", data := .seq vs.toArray } : Obj) = ob at ha hsp
  generalize eH : scrHp K a ob ns = H
  have only : ∀ {b u}, H b = some u → b = a ∧ K.lookup a = none ∧ u = .frz ob (.lst (ns.map V.int)) := fun h => scrHp_some (by rw [eH]; exact h)
  have lit : K.lookup a ≠ none → SqL K (fun _ => none) a (ns.map V.int) := fun h => by
    obtain ⟨o, e⟩ := Option.ne_none_iff_exists'.mp h
    have e2 := KX a o e
    rw [ha, ← eob] at e2
    cases e2
    exact .inr ⟨_, vs.toArray, _, e, rfl, rfl, rfl, by rw [List.size_toArray, lenV]; exact hl, by simpa using rv⟩
  have there : K.lookup a = none → H a = some (.frz ob (.lst (ns.map V.int))) := fun h => by subst eH; exact if_pos ⟨rfl, h⟩
  have sq : SqL K H a (ns.map V.int) := by
    cases hk : K.lookup a with
    | none => exact .inl (.inr ⟨ob, there hk⟩)
    | some o => exact (lit (by rw [hk]; exact fun q => nomatch q)).elim (fun t => by rcases t with t | ⟨_, t⟩ <;> cases t) .inr
  have hok : HOk P w H s.heap := fun b u h => by
    obtain ⟨rfl, _, rfl⟩ := only h
    refine ⟨ha, ?_⟩
    rw [← eob] at ha
    exact ⟨by rw [List.length_map]; exact hl, vs, _, rv, ha⟩
  have free : ∀ {b : Addr} {o : Obj} {es : Array DictEntry} {ep : Nat}, s.heap.get? b = some o → o.data = .dict es ep → H b = none := fun {b o es ep} e d => by
    cases q : H b with
    | none => rfl
    | some u =>
      obtain ⟨rfl, _, _⟩ := only q
      rw [ha, ← eob] at e; cases e
      exact nomatch (show Data.seq vs.toArray _ = Data.dict es ep from d)
  have ns' : ∀ {b : Addr} {m : Str → Option Value}, s.heap.Ns b m → (hidT s.heap H).Ns b m := fun {b m} ⟨o, es, ep, e, d, r⟩ => ⟨o, es, ep, hidT_get e (free e d), d, r⟩
  have hKb : K.In (hidT s.heap H) := fun b o e => hidT_get (KX b o e) (by
    cases q : H b with
    | none => rfl
    | some u =>
      obtain ⟨rfl, hk, _⟩ := only q
      rw [hk] at e; cases e)
  have hM : Mod K mg (hidT s.heap H) := ⟨hKb, ns' hns, ⟨mb, ns' hb, hbb⟩, let ⟨mc, h1, h2⟩ := hlim; ⟨mc, ns' h1, h2⟩⟩
  have e0 : Env0 P w K mg (hidT s.heap H) callerA [] s H := ⟨rfl, hM, fun b o e => of_hidT e, Nat.le_of_eq (hidT_size _ _), trivial, fun b hb => (nomatch (show b ∈ ([] : List Addr) from hb)), hok, .of_eq hg⟩
  have go := (F _ hKb (ns' hns)).run callerA [] s H ⟨[.ref a], []⟩ [.ref a] [.ref a] _ _ hr rfl e0 (hbind s (.ref a)) (.cons rfl .nil) (hsp H eH.symm sq lit)
  refine codeAny_mono go fun r s' h => ?_
  match r, h with
  | .error e, h =>
    obtain ⟨_, _, _, _, _, _, _, _, _, _, _, _, z⟩ := h
    exact z.elim
  | .ok (.ret u), h =>
    obtain ⟨v, H', os, bare, un, hok', r', q⟩ := h
    have q' : v = .bl true := q
    subst q'
    obtain rfl : u = Value.bool true := r'
    refine ⟨rfl, OldK.of_keep fun b o e => ?_, os, bare⟩
    cases q : H b with
    | none => exact un.keep b o e q (fun z => nomatch (show b ∈ ([] : List Addr) from z)) (by simp)
    | some u =>
      obtain ⟨rfl, _, rfl⟩ := only q
      obtain ⟨e2, _⟩ := hok' _ _ (un.frzs _ _ _ q)
      rw [ha] at e; cases e
      exact e2
/-- THE END: a law that gives True, as a function on data, on every script -/
theorem walk_ofD {l : PySem.W.OpenLaw} {n k : Nat} {q : Program} {loose : List Str} {XP : (Str → Option Value) → Heap → Prop} {YP : World → Heap → Prop} {d : DefRec} {x : Str} {F : FD}
    (hn : l.most = some n) (hn2 : n ≤ sizeLine) (hdf : d.params.defaults = []) (hr : Room k callerA)
    (hF : ∀ (w : World) (mg : Str → Option Value) (fa : Addr) (h : Heap), YP w h → h.Ns mainGlobals mg → mg d.name = some (.ref fa) →
      ∃ (K : PySem.W.Frag) (cm : Nat → Addr) (fd : FuncData), K.In h ∧ (∀ (s : Shared) (u : Value), BindsTo s fd ⟨[u], []⟩ [(x, u)]) ∧
        ∀ base : Heap, K.In base → base.Ns mainGlobals mg → FnG l.prog w K mg base k fa fd [x] (spD ⟨K, cm, [], w⟩ 1 F))
    (hlaw : ∀ ns : List Int, ns.length ≤ n → ∃ S, F [.scr ns] [] = .ok (.bl true) S) :
    PySem.W.WalkO q loose XP YP l.row.toRowW d [] (fun f vs => PySem.call f vs) := by
  refine Att.attach_call hn hdf fun w s₀ s₁ mg mb fa o pm cd doc a vs ns G Y ho hd hcd hmg hobj hints hlen hg => ?_
  obtain ⟨K, cm, fd, KX, hb, hG⟩ := hF w mg fa _ Y G.T.g hmg
  refine law_go KX G.T.g G.T.b G.T.builtins G.T.nolimit hg hobj hints (Nat.le_trans hlen hn2) hr hG hb fun H eH hS hK => ?_
  obtain ⟨S, hS1⟩ := hlaw ns hlen
  have scr : Rep ⟨K, cm, [], w⟩ ⟨[], []⟩ H (.scr ns) (.ref a) := rep_scr.mpr ⟨a, rfl, by
    cases hk : K.lookup a with
    | none => exact .inl ⟨⟨fun q => (nomatch q), fun q => (nomatch q)⟩, .inr ⟨_, by subst eH; exact if_pos ⟨rfl, hk⟩⟩⟩
    | some o => exact .inr (hK (by rw [hk]; exact fun q => nomatch q))⟩
  refine ⟨⟨[], []⟩, [.scr ns], [], rfl, .one scr, ⟨rfl, .nil, fun n a d h => by simp at h, fun p hp => (nomatch hp), fun a h => (nomatch h), fun a h => (nomatch h), fun a h => (nomatch h)⟩, ?_⟩
  rw [hS1]
  exact fun v H' r' _ _ rp => rep_bl.mp rp
end Dl

set_option Elab.async false
set_option linter.all false
set_option maxRecDepth 100000
set_option maxHeartbeats 4000000
/-! Dl13: the rules in short, as a program prints them. -/
namespace Dl
open PySem PySem.Spec PyProof.Rows L2

theorem takesN {X : Cx} : Takes X W0 := fun u s' ⟨_, _, _, _, _, _, _, _, _, _, _, _, _, _, _, _, w⟩ => w.elim
section
variable {E : En} {X : Cx} {W : WX} {pos px py spos : Pos} {elt tg iter : Expr} {ifs : List Expr} {scope : Scope} {own : List (Str × Nat)} {fi : FI} {g : GD} {tt : FT} {fe : FE} {tgt : TG} {new : Bool} {i : Nat} {x y : Str}
/-- y = {elt for tg in iter if ..}, of ints -/
theorem st_setC (hw : E.w = X.w) (hc : X.calm = true) (hN : X.N.Nodup) (hy : X.N[i]? = some y) (hyl : X.env.scope.names.lookup y = some .local)
    (hsw : swapsWith (.SetComp elt [⟨tg, iter, ifs, 0⟩] scope pos) (some (.Name y py)) spos.line X.env = pure true) (hi : DI E X W tg iter fi) (ok : BlkOk X.N X.env.scope scope own) (hown : TOwn tgt (own.map (·.2))) (hgt : ∀ v σ H Q, tG E g v σ H Q → tgt v σ H Q)
    (hg : ∀ (s : Shared) (H : Hp) (C : Addr) (cl : List (Str × Addr)) (fp : List Addr), PG (X.blk s H scope (compEnvC scope cl C X.env) fp) tg tgt) (ht : ∀ (s : Shared) (H : Hp) (C : Addr) (cl : List (Str × Addr)) (fp : List Addr), DTs E (X.blk s H scope (compEnvC scope cl C X.env) fp) W0 ifs tt)
    (he : ∀ (s : Shared) (H : Hp) (C : Addr) (cl : List (Str × Addr)) (fp : List Addr), DE E (X.blk s H scope (compEnvC scope cl C X.env) fp) W0 elt fe) (hs : ∀ x, foldedSetIterable iter X.env x = pure x := by intro _; rfl) :
    DSt E X W (.Assign [.Name y py] (.SetComp elt [⟨tg, iter, ifs, 0⟩] scope pos) spos) (sSet i (eSetC new fi g tt fe (own.map (·.2)))) := by
  have main : PS X (.Assign [.Name y py] (.SetComp elt [⟨tg, iter, ifs, 0⟩] scope pos) spos) (fun Dn σ H => tSetC X.w (tDI E W fi) tgt (tDT E W0 tt) (tD E W0 fe) (own.map (·.2)) σ H fun v H1 => Dn.nx (σ.set i (some v)) H1) := by
    refine ⟨fun pins s σ H Dn I h => ?_⟩
    rw [exec_Assign_Name_used _ _ _ _ hsw]
    refine wpAny_bind (wpAny_standAt (wpAny_bind ?_))
    show wpAny _ X.A (do let _ ← comprehension (.SetComp elt [⟨tg, iter, ifs, 0⟩] scope pos) scope X.env (firstIterPos [⟨tg, iter, ifs, 0⟩] pos) (newSet (.type "set")) false (eval iter X.env) (some (assign (.Name y py) X.env))) _ _ s
    refine wpAny_bind (thn (setC_core (Qf := fun _ s' => SP X pins Dn .next s') hc hN I hi ok hg ht he hs h fun Da C s' m H' I' q hn f => ?_) fun _ s' hq => wpAny_pure (wpAny_pure hq))
    refine wpAny_assign_Name (store_ok2 (v := V.ref Da) I' hN hy (.inl hyl) rfl (fun s2 I2 ⟨a, sb, ha⟩ => ?_) (.inr hyl))
    have ne : C ≠ a := ha.elim (fun z => by rw [z]; exact f.2.1) fun z e => f.2.2.2.2.1 y a z e.symm
    exact ⟨m, hn.sameBut sb ne, fun h3 sb3 => ⟨_, H', I2.turned (t' := s2.toks) (fun b o hb e => (sb3.2 b hb).trans e) f.1 f.2.1 f.2.2.2.1 f.2.2.2.2.1 f.2.2.2.2.2, q⟩⟩
  exact main.imp fun Dn σ H q => by
    rw [← hw]
    exact sc_core (new := new) (Q := fun v H1 => Dn.nx (σ.set i (some v)) H1) hown hgt (tD_stepS q fun r ds S d v H1 p o rp s1 => s1.hereN o (p.set i rp))
/-! ### targets -/
theorem hgt_name : ∀ v σ H Q, tG E (gN i) v σ H Q → gName i v σ H Q := fun v σ H Q ⟨r, d, ds, S, p, o, rp, ds', e, k⟩ => by
  cases e
  exact k _ (p.set i rp)
theorem hgt_tup {is : List Nat} {K : PySem.W.Frag} {n : Nat} (hK : E.K = K) (hn : n = is.length) : ∀ v σ H Q, tG E (gT is) v σ H Q → gTup K n (gNames is) v σ H Q := fun v σ H Q ⟨r, d, ds, S, p, o, rp, ds', e, kk⟩ => by
  cases d with
  | tup dl =>
    unfold gT at e
    dsimp only at e
    split at e
    · cases e
      rename_i hl
      obtain ⟨a, vs, rfl, t, rl⟩ := rep_tup.mp rp
      exact ⟨a, vs, rfl, hK ▸ t.sq, by rw [hn, ← rl.length]; exact hl, gNames_run hl rl p kk⟩
    · cases e
  | _ => cases e
end
/-- a comprehension's block, by one Bool -/
def blkB (N : List Str) (sc scope : Scope) (own : List (Str × Nat)) : Bool := decide (scope.kind = .function) && (scope.names.all (fun y => decide (scope.names.lookup y.1 = some y.2)) && (own.all (fun p => decide (N[p.2]? = some p.1)) &&
  (scope.names.all (fun y => decide (y.2 ≠ .free) || (decide (sc.names.lookup y.1 = some .cell) || decide (sc.names.lookup y.1 = some .free))) &&
    scope.names.all (fun y => (decide (y.2 ≠ .local) && decide (y.2 ≠ .cell)) || (own.any (fun p => decide (p.1 = y.1)) || !N.any (fun z => decide (z = y.1)))))))
theorem blk_ok {N : List Str} {sc scope : Scope} {own : List (Str × Nat)} (h : blkB N sc scope own = true) : BlkOk N sc scope own := by
  unfold blkB at h
  simp only [Bool.and_eq_true, List.all_eq_true, decide_eq_true_eq, Bool.or_eq_true, List.any_eq_true, Bool.not_eq_true', List.any_eq_false] at h
  obtain ⟨h1, h2, h3, h4, h5⟩ := h
  refine ⟨h1, fun y hy => h2 y hy, fun p hp => h3 p hp, fun y hy e => ?_, fun y hy e => ?_⟩
  · rcases h4 y hy with q | q
    · exact absurd e q
    · exact q
  · rcases h5 y hy with q | q | q
    · rcases e with e | e
      · exact absurd e q.1
      · exact absurd e q.2
    · obtain ⟨p, hp, e2⟩ := q
      exact .inl (List.mem_map.mpr ⟨p, hp, e2⟩)
    · exact .inr fun hm => q y.1 hm rfl
section
variable {E : En} {X : Cx} {W : WX} {pos p px : Pos} {x : Str}
theorem dv (i : Nat) (hN : X.N[i]? = some x := by rfl) (hv : Vis X.env.scope x := by first | exact Or.inl rfl | exact Or.inr (Or.inl rfl) | exact Or.inr (Or.inr rfl)) (hd : (x == ("__debug__" : Str)) = false := by decide) (hcd : (x == ("__classdict__" : Str)) = false := by decide) : DE E X W (.Name x pos) (eVar i) := de_var hN hv hd hcd
end
end Dl

set_option Elab.async false
set_option linter.all false
set_option maxRecDepth 100000
set_option maxHeartbeats 4000000
/-! Dl14: t[::-1] of a tuple; more words. -/
namespace Dl
open PySem PySem.Spec PyProof.Rows L2

section
variable {prog : Program} {w : World} {A : Around} {E : Value → Shared → Prop} {s : Shared}
theorem applied_rev {sl : Addr} {vl vu vk : Value} {n : Nat} {Q : Int × Int × Nat → Shared → Prop} (hs : s.heap.IsSliceOf sl vl vu vk) (pl : IsPart vl none) (pu : IsPart vu none) (pk : IsPart vk (some (-1)))
    (h : Q ((n : Int) - 1, -1, n) s) : wpAny (model prog w) A (Builtin.Slice.sliceApplied (.ref sl) (pure (n : Int))) Q E s := by
  obtain ⟨os, hos, hcs, hds⟩ := id hs
  unfold Builtin.Slice.sliceApplied Builtin.Slice.sliceFields
  refine wpAny_bind (wpAny_bind (wpAny_field hos hds (x := vl) rfl (wpAny_bind (wpAny_field hos hds (x := vu) rfl (wpAny_bind (wpAny_field hos hds (x := vk) rfl (wpAny_pure ?_)))))))
  refine wpAny_bind (HT.slicePart_ pk ?_)
  show wpAny _ _ (if ((-1 : Int) == 0) = true then _ else _) _ _ s
  rw [if_neg (by decide)]
  refine wpAny_bind (HT.slicePart_ pl (wpAny_bind (HT.slicePart_ pu (wpAny_bind (wpAny_pure ?_)))))
  have e1 : Builtin.Slice.slicePlaces ((n : Int) - 1) (-1) (-1) = n := by
    unfold Builtin.Slice.slicePlaces
    rw [if_neg (by omega), Int.neg_neg, Int.ediv_one]
    split <;> omega
  show wpAny _ _ (pure ((n : Int) - 1, (-1 : Int), Builtin.Slice.slicePlaces ((n : Int) - 1) (-1) (-1))) _ _ s
  rw [e1]
  exact wpAny_pure h
theorem filterMap_some {α β : Type} {f : α → Option β} {g : α → β} : ∀ {l : List α}, (∀ m ∈ l, f m = some (g m)) → l.filterMap f = l.map g
  | [], _ => rfl
  | a :: l, h => by rw [List.filterMap_cons, h a List.mem_cons_self, List.map_cons, filterMap_some fun m hm => h m (List.mem_cons_of_mem _ hm)]
theorem pick_rev (xs : Array Value) : ((List.range xs.size).filterMap fun (m : Nat) => xs[(((xs.size : Int) - 1) + (m : Int) * (-1)).toNat]?).toArray = xs.toList.reverse.toArray := by
  congr 1
  have e : ∀ m ∈ List.range xs.size, xs[(((xs.size : Int) - 1) + (m : Int) * (-1)).toNat]? = some (xs.toList.reverse.getD m .none) := fun m hm => by
    have hm : m < xs.size := List.mem_range.mp hm
    have q : (((xs.size : Int) - 1) + (m : Int) * (-1)).toNat = xs.size - 1 - m := by omega
    have hl : m < xs.toList.reverse.length := by simpa using hm
    rw [q, List.getD_eq_getElem?_getD, List.getElem?_eq_getElem hl, Option.getD_some, List.getElem_reverse, Array.getElem?_eq_getElem (by omega)]
    simp
  rw [filterMap_some e]
  apply List.ext_getElem?
  intro i
  rw [List.getElem?_map]
  by_cases hi : i < xs.size
  · have hl : i < xs.toList.reverse.length := by simpa using hi
    rw [List.getElem?_eq_getElem (by simpa using hi), Option.map_some, List.getElem_range, List.getD_eq_getElem?_getD, List.getElem?_eq_getElem hl, Option.getD_some]
  · rw [List.getElem?_eq_none (by simpa using hi), List.getElem?_eq_none (by simpa using hi)]; rfl
theorem getItem_rev {t sl : Addr} {items : Array Value} {vl vu vk : Value} {Q : Value → Shared → Prop} (ht : IsTup s.heap t items) (hs : s.heap.IsSliceOf sl vl vu vk) (pl : IsPart vl none) (pu : IsPart vu none) (pk : IsPart vk (some (-1)))
    (h : Q (.ref s.heap.objs.size) { s with heap := s.heap.push { cls := .type "tuple", data := .seq items.toList.reverse.toArray } }) (hsz : items.size ≤ sizeLine) : wpAny (model prog w) A (getItem (.ref t) (.ref sl)) Q E s := by
  have ok : sizeOk (.seq items.toList.reverse.toArray) := by
    show items.toList.reverse.toArray.size ≤ sizeLine
    simpa using hsz
  obtain ⟨os, hos, hcs, hds⟩ := id hs
  have hTs : s.TypeIs (.ref sl) "slice" := ⟨os, hos, hcs⟩
  unfold getItem
  try with_reducible refine wpAny_holding ?_
  first | refine wpAny_bind (wpAny_pure ?_) | skip
  refine wpAny_bind (wpAny_sequenceKey ht.typeIs (by decide) ?_)
  refine wpAny_bind (wpAny_callSpecial?_slot (name := Str.ofString "__getitem__") ht.typeIs PyProof.Rows.slot_tuple_getitem
    (wpAny_call_entry PyProof.Rows.slot_tuple_getitem ht.typeIs entry_tuple_getitem ?_ (args_tuple_getitem _ _)))
  show wpAny (model prog w) A.in1 (Builtin.Tuple.tupleItemsOf (Value.ref t) >>= _) _ _ s
  refine wpAny_bind (tupleItemsOf_ ht ?_)
  refine wpAny_bind (wpAny_typeOf hTs ?_)
  rw [if_pos (by decide)]
  refine wpAny_bind (applied_rev hs pl pu pk ?_)
  have no : ¬ ((((items.size : Int) - 1) == 0 && (-1 : Int) == 1 && items.size == items.size) = true) := by
    intro q
    rw [Bool.and_eq_true, Bool.and_eq_true] at q
    exact absurd q.1.2 (by decide)
  show wpAny _ _ (if ((((items.size : Int) - 1) == 0 && (-1 : Int) == 1 && items.size == items.size)) = true then _ else _) _ _ s
  rw [if_neg no, pick_rev]
  first
    | exact wpAny_bind (m := Builtin.Tuple.tupleExact _) (wpAny_newObj_type (wpAny_pure ⟨_, rfl, wpAny_pure h⟩) ok)
    | exact wpAny_bind (m := Builtin.Tuple.tupleExact _) (wpAny_newObj_type (wpAny_bind (wpAny_pure (wpAny_pure ⟨_, rfl, wpAny_pure h⟩))) ok)
    | exact wpAny_bind (wpAny_bind (m := Builtin.Tuple.tupleExact _) (wpAny_newObj_type (wpAny_pure (wpAny_pure ⟨_, rfl, wpAny_pure h⟩)) ok))
    | exact wpAny_bind (wpAny_bind (m := Builtin.Tuple.tupleExact _) (wpAny_newObj_type (wpAny_pure ⟨_, rfl, wpAny_pure h⟩) ok))
end
section
variable {E : En} {X : Cx} {W : WX} {e : Expr} {f : FE} {pos p p1 p2 p3 : Pos} {k : Nat} {x : Str}
def tRevT (K : PySem.W.Frag) (te : TE) : TE := fun σ H Q => te σ H fun x H1 => ∃ a xs, x = .ref a ∧ SqT K H1 a xs ∧ ∀ p, H1 p = none → Q (.ref p) (upd H1 p (.tup xs.reverse))
theorem pe_revT {te : TE} (he : PE X e te) : PE X (.Subscript e (.Slice none none (some (.UnaryOp .USub (.Constant (.int 1) k p1) p2)) p3) pos) (tRevT X.K te) := by
  refine ⟨fun pins s σ H Q I h => Subscript_ (thn (he.run pins s σ H _ I h) fun v s1 ⟨x, H1, I1, r1, a, xs, ex, hx, q⟩ => ?_)⟩
  subst ex
  cases r1
  have hst : PO X (some (.UnaryOp .USub (.Constant (.int 1) k p1) p2)) (tPart (tUn (rU fun i => .int (-i)) (tC (.int 1)))) := po_some (pe_un un_neg pe_int)
  refine wpAny_Slice (thn (po_none.run pins s1 σ H1 (fun o G => o = none ∧ G = H1) I1 ⟨rfl, rfl⟩) fun vl s2 ⟨_, G, I2, pl, z1, z2⟩ => ?_)
  subst z1 z2
  refine thn (po_none.run pins s2 σ G (fun o G' => o = none ∧ G' = G) I2 ⟨rfl, rfl⟩) fun vu s3 ⟨_, G', I3, pu, z1, z2⟩ => ?_
  subst z1 z2
  refine thn (hst.run pins s3 σ G' (fun o G2 => o = some (-1) ∧ G2 = G') I3 ⟨1, rfl, -1, rfl, rfl, rfl⟩) fun vs s4 ⟨_, G2, I4, ps, z1, z2⟩ => ?_
  subst z1 z2
  have I5 : Inv X pins σ G2 { s4 with heap := s4.heap.push { cls := .type "slice", data := .fields #[vl, vu, vs] } } := I4.kept (t' := s4.toks) fun b ob q => Heap.get?_push_of_some _ q
  obtain ⟨its, r, ht, hz⟩ := I5.tuple hx
  have hl := r.length
  show wpAny (model X.prog X.w) X.A (subscriptTail e (.Slice none none (some (.UnaryOp .USub (.Constant (.int 1) k p1) p2)) p3) (.ref a) (.ref s4.heap.objs.size)) (EP X pins σ Q) X.xe { s4 with heap := s4.heap.push { cls := .type "slice", data := .fields #[vl, vu, vs] } }
  refine tail_any (ops := [.ref a, .ref s4.heap.objs.size]) ht.typeIs PyProof.Rows.slot_tuple_getitem.lookup ?_ (by with_unfolding_all rfl)
  refine getItem_rev ht (Heap.IsSliceOf.new _ vl vu vs) pl pu ps ?_ (by rw [List.size_toArray, ← hl]; exact hz)
  refine ⟨.ref _, _, I5.laid (t' := s4.toks) (o := .tup xs.reverse) (fun b ob q => Heap.get?_push_of_some _ q) (Nat.le_refl _) ?_, rfl, q _ (I5.hok.fresh (Nat.le_refl _))⟩
  exact ⟨by rw [List.length_reverse]; exact hz, its.reverse, r.reverse, IsTup.new _ _⟩
def opRevT : Op1 := fun x S => match x with
  | .tup xs => .ok (.tup xs.reverse) S
  | _ => .stuck
theorem de_revT (hK : E.K = X.K) (he : DE E X W e f) : DE E X W (.Subscript e (.Slice none none (some (.UnaryOp .USub (.Constant (.int 1) k p1) p2)) p3) pos) (eThen opRevT f) :=
  (pe_revT he).imp fun σ H Q q => tD_step q fun r ds S d v H1 p o rp s1 => by
    unfold opRevT at s1
    split at s1
    · obtain ⟨a, vs, rfl, t, l⟩ := rep_tup.mp rp
      rw [← hK]
      exact ⟨a, vs, rfl, t.sq, fun q hq => new_tup o l.reverse s1 hq⟩
    · exact s1.elim
/-- [..] * n, a list that is changed later -/
def opMulN : Op2 := fun x y S => match y with
  | .int k => (match lstOf x S with
    | some a => if (decide (-(2 ^ 63) ≤ k) && (decide (k < 2 ^ 63) && decide (a.length * k.toNat ≤ sizeLine))) = true then .ok (.loc S.length) (S ++ [.lst (List.replicate k.toNat a).flatten]) else .stuck
    | none => .stuck)
  | _ => .stuck
theorem mulNS : OpS E rRep opMulN := by
  intro r H S d1 d2 v1 v2 Q W o r1 r2 s
  unfold opMulN at s
  split at s
  · split at s
    · split at s
      · rename_i k _ a ha hk
        simp only [Bool.and_eq_true, decide_eq_true_eq] at hk
        obtain ⟨p, vs, rfl, t, l⟩ := lstOf_some ha o r1
        exact ⟨p, _, vs, rfl, rep_int.mp r2, t, hk.1, hk.2.1, by rw [← l.length]; exact hk.2.2, fun q hq => new_loc o (l.rep _) s hq⟩
      · exact s.elim
    · exact s.elim
  · exact s.elim
theorem de_globI {i : Int} (h : ∃ t, X.mg x = some (.int i t)) (hg : Gl X x) (hd : (x == ("__debug__" : Str)) = false := by decide) : DE E X W (.Name x p) (eC (.int i)) := by
  obtain ⟨t, e⟩ := h
  exact de_glob (v := .int i) hg e ⟨t, rfl⟩ (fun _ _ => rep_int.mpr rfl) hd
theorem roomE {j : Nat} (hr : Room j X.A) : X.A.units + 64 < cLine := hr.units
end
/-- a statement done while the dict at the slot's place is locked -/
def sLock (i : Nat) (f : FS) : FS := fun ds S => match ds[i]? with
  | some (some (.loc n)) => (match S[n]? with
    | some (.dic ks es) => (match f ds (S.set n (.lkd ks es)) with
      | .nx ds' S' => (match S'[n]? with
        | some (.lkd ks' es') => .nx ds' (S'.set n (.dic ks' es'))
        | _ => .stuck)
      | _ => .stuck)
    | _ => .stuck)
  | _ => .stuck
theorem SRep.same3 {E : En} {r r' : Reg} {H H' : Hp} {ds : DS} {σ : L2.St} (h : SRep E r H ds σ) (s : Same3 r H r' H') : SRep E r' H' ds σ := h.same s
section
variable {E : En} {X : Cx} {W : WX} {st : Stmt} {f : FS}
theorem st_lock {i : Nat} (h : DSt E X W st f) : DSt E X W st (sLock i f) :=
  (ps_lock h).imp fun Dn σ H ⟨r, ds, S, p, o, s⟩ => by
    unfold sLock at s
    split at s
    · split at s
      · rename_i n hi _ ks es hn
        obtain ⟨a, ha, c⟩ := o.get hn
        obtain ⟨kvs, e1, rfl, l⟩ := c
        have hm : a ∈ r.l := List.mem_of_getElem? ha
        have nf : ∀ x u, H a ≠ some (.frz x u) := fun x u h => by rw [e1] at h; cases h
        refine ⟨a, .dK kvs, e1, trivial, fun od => ?_⟩
        have o0 := o.put3 (o := .frz od (.dK kvs)) (d := .lkd (kvs.map (·.1)) es) ha ⟨od, kvs, upd_same, rfl, l.same (same_put hm)⟩
        refine ⟨r, ds, _, p.same (same_put hm), o0, ?_⟩
        cases hf : f ds (S.set n (.lkd (kvs.map (·.1)) es)) with
        | exc c ns fs ds' S' => rw [hf] at s; exact s.elim
        | stuck => rw [hf] at s; exact s.elim
        | ret d S' => rw [hf] at s; exact s.elim
        | nx ds' S' =>
          rw [hf] at s
          dsimp only at s
          split at s
          · rename_i ks' es' hn'
            intro σ' H' r' st o' p'
            have fz := st.fz a od _ upd_same
            refine ⟨fz, ?_⟩
            have ha' := st.get ha
            have hm' : a ∈ r'.l := List.mem_of_getElem? ha'
            obtain ⟨od2, kvs2, e2, rfl, l2⟩ := o'.at_ n a _ ha' hn'
            rw [fz] at e2; cases e2
            refine s σ' _ r' ⟨?_, fun b u hb hr ht => ?_, fun b hb => ?_, st.z1, fun b hb => ?_, fun b x u hb => ?_⟩ (o'.put3 ha' ⟨_, upd_same, rfl, l2.same (same_put hm')⟩) (p'.same (same_put hm'))
            · obtain ⟨e, q1, q2⟩ := st.ex
              refine ⟨e, q1, fun b hb => ?_⟩
              have := q2 b hb
              by_cases hba : b = a
              · rw [hba, upd_same] at this; cases this
              · rw [upd_ne hba] at this; exact this
            · have hba : b ≠ a := fun q => hr (q ▸ hm)
              rw [upd_ne hba]
              exact st.kp b u (by rw [upd_ne hba]; exact hb) hr ht
            · by_cases hba : b = a
              · rw [hba, upd_same]; exact fun q => nomatch q
              · rw [upd_ne hba]; exact st.th b (by rw [upd_ne hba]; exact hb)
            · rcases st.z2 b hb with q | q
              · exact .inl q
              · refine .inr ?_
                by_cases hba : b = a
                · rw [hba, upd_same] at q; cases q
                · rw [upd_ne hba] at q; exact q
            · have hba : b ≠ a := fun q => nf x u (q ▸ hb)
              rw [upd_ne hba]
              exact st.fz b x u (by rw [upd_ne hba]; exact hb)
          · exact s.elim
      · exact s.elim
    · exact s.elim
end
end Dl

set_option Elab.async false
set_option linter.all false
set_option maxRecDepth 100000
set_option maxHeartbeats 4000000
/-! Dl15: the functions on data, evaluated by simp. -/
namespace Dl
open PySem PySem.Spec PyProof.Rows L2

section
variable (ds : DS) (S : List D)
@[simp] theorem ev_nil : sNil ds S = .nx ds S := rfl
@[simp] theorem ev_seq (f g : FS) : sSeq f g ds S = (f ds S).andThen g := rfl
@[simp] theorem ev_expr (f : FE) : sExpr f ds S = (f ds S).toS ds fun _ S1 => .nx ds S1 := rfl
@[simp] theorem ev_ret (f : FE) : sRet f ds S = (f ds S).toS ds fun d S1 => .ret d S1 := rfl
@[simp] theorem ev_retN : sRetN ds S = .ret .non S := rfl
@[simp] theorem ev_if (c : FT) (f g : FS) : sIf c f g ds S = (c ds S).toS ds fun b S1 => if b = true then f ds S1 else g ds S1 := rfl
@[simp] theorem ev_set (i : Nat) (f : FE) : sSet i f ds S = (f ds S).toS ds fun d S1 => .nx (ds.set i (some d)) S1 := rfl
@[simp] theorem ev_asg (f : FE) (g : GD) : sAsg f g ds S = (f ds S).toS ds fun d S1 => match g d ds S1 with
  | some ds' => .nx ds' S1
  | none => .stuck := rfl
@[simp] theorem ev_par (i j : Nat) (g : FA) : sPar i j g ds S = (g ds S).toS ds fun ls S1 => match ls with
  | [x, y] => .nx ((ds.set i (some x)).set j (some y)) S1
  | _ => .stuck := rfl
@[simp] theorem ev_put (fe fo fi : FE) : sPut fe fo fi ds S = (fe ds S).toS ds fun d S1 => (fo ds S1).toS ds fun x S2 => (fi ds S2).toS ds fun i S3 => match putS x i d S3 with
  | some S4 => .nx ds S4
  | none => .stuck := rfl
@[simp] theorem ev_while0 (c : FT) (b : FS) : whileD c b 0 ds S = .stuck := rfl
theorem ev_while (c : FT) (b : FS) (n : Nat) : whileD c b (n + 1) ds S = (c ds S).toS ds fun k S1 => if k = true then (b ds S1).andThen (whileD c b n) else .nx ds S1 := rfl
@[simp] theorem ev_var (i : Nat) : eVar i ds S = match ds[i]? with
  | some (some d) => .ok d S
  | _ => .stuck := rfl
@[simp] theorem ev_c (d : D) : eC d ds S = .ok d S := rfl
@[simp] theorem ev_op (op : Op2) (f g : FE) : eOp op f g ds S = (f ds S).bind fun x S1 => (g ds S1).bind fun y S2 => op x y S2 := rfl
@[simp] theorem ev_un (op : Op1) (f : FE) : eUn op f ds S = (f ds S).bind fun x S1 => op x S1 := rfl
@[simp] theorem ev_val (f : FE) : tVal f ds S = (f ds S).bind fun d S1 => match d with
  | .bl b => .ok b S1
  | _ => .stuck := rfl
@[simp] theorem ev_chain (op op' : Op2) (f g h : FE) : eChain op op' f g h ds S = (f ds S).bind fun x S1 => (g ds S1).bind fun y S2 => (op x y S2).bind fun z S3 => match z with
  | .bl true => (h ds S3).bind fun w S4 => op' y w S4
  | .bl false => .ok (.bl false) S3
  | _ => .stuck := rfl
@[simp] theorem ev_tand (f g : FT) : tAndD f g ds S = (f ds S).bind fun b S1 => if b = true then g ds S1 else .ok false S1 := rfl
@[simp] theorem ev_tor (f g : FT) : tOrD f g ds S = (f ds S).bind fun b S1 => if b = true then .ok true S1 else g ds S1 := rfl
@[simp] theorem ev_tnot (f : FT) : tNotD f ds S = (f ds S).bind fun b S1 => .ok (!b) S1 := rfl
@[simp] theorem ev_and (f g : FE) : eAnd f g ds S = (f ds S).bind fun d S1 => match d with
  | .bl true => g ds S1
  | .bl false => .ok (.bl false) S1
  | _ => .stuck := rfl
@[simp] theorem ev_or (f g : FE) : eOr f g ds S = (f ds S).bind fun d S1 => match d with
  | .bl true => .ok (.bl true) S1
  | .bl false => g ds S1
  | _ => .stuck := rfl
@[simp] theorem ev_not (f : FE) : eNot f ds S = (f ds S).bind fun d S1 => match d with
  | .bl k => .ok (.bl (!k)) S1
  | _ => .stuck := rfl
@[simp] theorem ev_eif (t : FT) (f g : FE) : eIf t f g ds S = (t ds S).bind fun b S1 => if b = true then f ds S1 else g ds S1 := rfl
@[simp] theorem ev_anil : aNil ds S = .ok [] S := rfl
@[simp] theorem ev_acons (f : FE) (g : FA) : aCons f g ds S = (f ds S).bind fun d S1 => (g ds S1).bind fun ls S2 => .ok (d :: ls) S2 := rfl
@[simp] theorem ev_tup (g : FA) : eTup g ds S = (g ds S).bind fun ls S1 => if ls.length ≤ sizeLine then .ok (.tup ls) S1 else .stuck := rfl
@[simp] theorem ev_lst (g : FA) : eLst g ds S = (g ds S).bind fun ls S1 => if ls.length ≤ sizeLine then .ok (.lst ls) S1 else .stuck := rfl
@[simp] theorem ev_new (g : FA) : eNew g ds S = (g ds S).bind fun ls S1 => if ls.length ≤ sizeLine then .ok (.loc S1.length) (S1 ++ [.lst ls]) else .stuck := rfl
@[simp] theorem ev_call (op : OpN) (g : FA) : eCall op g ds S = (g ds S).bind fun ls S1 => op ls S1 := rfl
@[simp] theorem ev_fn (F : FD) (g : FA) : eFn F g ds S = (g ds S).bind fun ls S1 => F ls S1 := rfl
@[simp] theorem ev_mt (chk : D → List D → Bool) (op : OpM) (f : FE) (g : FA) : eMt chk op f g ds S = (f ds S).bind fun x S1 => if chk x S1 = true then (g ds S1).bind fun ls S2 => op x ls S2 else .stuck := rfl
@[simp] theorem ev_then (op : Op1) (f : FE) : eThen op f ds S = (f ds S).bind fun x S1 => op x S1 := rfl
@[simp] theorem ev_dict : eDict ds S = .ok (.loc S.length) (S ++ [.dic [] []]) := rfl
@[simp] theorem ev_setd (f fk fv : FE) : eSetd f fk fv ds S = (f ds S).bind fun x S1 => if isDic x S1 = true then (fk ds S1).bind fun k S2 => (fv ds S2).bind fun z S3 => opSetd x k z S3 else .stuck := rfl
@[simp] theorem ev_part (f : FE) : ePart f ds S = (f ds S).bind fun d S1 => match d with
  | .int i => .ok (.int i) S1
  | _ => .stuck := rfl
@[simp] theorem ev_sl (f fl fh : FE) : eSl f fl fh ds S = (f ds S).bind fun x S1 => (fl ds S1).part fun lo S2 => (fh ds S2).part fun hi S3 => opSl x lo hi S3 := rfl
@[simp] theorem ev_listRg (new : Bool) (f : FE) : eListRg new f ds S = (f ds S).bind fun d S1 => match d with
  | .int n => if rgOkD 0 n = true then (if new = true then .ok (.loc S1.length) (S1 ++ [.lst (rangeD 0 (n - 0).toNat)]) else .ok (.lst (rangeD 0 (n - 0).toNat)) S1) else .stuck
  | _ => .stuck := rfl
@[simp] theorem ev_yes : tYesD ds S = .ok true S := rfl
@[simp] theorem ev_range (rn : List D → Option (Int × Nat)) (g : FA) : iRange rn g ds S = (g ds S).bind fun ls S1 => match rn ls with
  | some q => .ok (wkL (rangeD q.1 q.2)) S1
  | none => .stuck := rfl
@[simp] theorem ev_walk (w : D → List D → Option Wk) (f : FE) : iWalk w f ds S = (f ds S).bind fun d S1 => match w d S1 with
  | some k => .ok k S1
  | none => .stuck := rfl
@[simp] theorem ev_iseqA (f : FE) : iSeqA f ds S = iWalk seqW f ds S := rfl
@[simp] theorem ev_ienum (f : FE) : iEnumD f ds S = iWalk enumW f ds S := rfl
@[simp] theorem ev_iseqT (f : FE) : iSeqT f ds S = (f ds S).bind fun d S1 => match d with
  | .tup xs => .ok (wkL xs) S1
  | _ => .stuck := rfl
@[simp] theorem R.part_ok (d : D) (S : List D) (k : Option Int → List D → R D) : (R.ok d S).part k = match partD d with
  | some lo => k lo S
  | none => .stuck := rfl
/-- over a fixed list -/
@[simp] theorem forW_wkL (g : GD) (b : FS) (xs : List D) (n : Nat) (h : n = xs.length) : forW g b (wkL xs) n 0 ds S = forL g b xs ds S := by
  rw [h, forW_list xs.length 0 (by omega), List.drop_zero]
theorem ev_for (fi : FI) (g : GD) (b : FS) : sFor fi g b ds S = (fi ds S).toS ds fun k S1 => forW g b k k.n 0 ds S1 := rfl
@[simp] theorem ev_forL0 (g : GD) (b : FS) : forL g b [] ds S = .nx ds S := rfl
theorem ev_forL (g : GD) (b : FS) (d : D) (xs : List D) : forL g b (d :: xs) ds S = match g d ds S with
  | some ds' => (b ds' S).andThen (forL g b xs)
  | none => .stuck := rfl
@[simp] theorem wkL_n (xs : List D) : (wkL xs).n = xs.length := rfl
@[simp] theorem ev_gN (i : Nat) (d : D) : gN i d ds S = some (ds.set i (some d)) := rfl
@[simp] theorem ev_gT (is : List Nat) (dl : List D) : gT is (.tup dl) ds S = if dl.length = is.length then some (setMany is dl ds) else none := rfl
@[simp] theorem setMany_nil (dl : List D) : setMany [] dl ds = ds := by cases dl <;> rfl
@[simp] theorem setMany_cons (i : Nat) (is : List Nat) (d : D) (dl : List D) : setMany (i :: is) (d :: dl) ds = setMany is dl (ds.set i (some d)) := rfl
@[simp] theorem wipeD_nil : wipeD ds [] = ds := rfl
@[simp] theorem wipeD_cons (v : Nat) (vs : List Nat) : wipeD ds (v :: vs) = (wipeD ds vs).set v none := rfl
end
/-! ### operations -/
section
variable (S : List D)
@[simp] theorem op_add_int (i j : Int) : opAdd (.int i) (.int j) S = .ok (.int (i + j)) S := rfl
@[simp] theorem op_sub_int (i j : Int) : opSub (.int i) (.int j) S = .ok (.int (i - j)) S := rfl
theorem op_mul_int (i j : Int) : opMul (.int i) (.int j) S = if mulOk i j = true then .ok (.int (i * j)) S else .stuck := rfl
theorem op_mul_ok {i j : Int} (h : mulOk i j = true) : opMul (.int i) (.int j) S = .ok (.int (i * j)) S := by rw [op_mul_int, if_pos h]
theorem op_mod_ok {i j : Int} (h : 0 < j) : opMod (.int i) (.int j) S = .ok (.int (i % j)) S := by
  show (if modOk i j = true then _ else _) = _
  rw [if_pos (show modOk i j = true from decide_eq_true h)]
theorem op_div_ok {i j : Int} (h : 0 < j) (h2 : j < 1073741824) : opDiv (.int i) (.int j) S = .ok (.int (i / j)) S := by
  show (if divOk i j = true then _ else _) = _
  rw [if_pos (by unfold divOk; rw [decide_eq_true h, decide_eq_true h2]; rfl)]
@[simp] theorem op_neg_int (i : Int) : opNeg (.int i) S = .ok (.int (-i)) S := rfl
@[simp] theorem op_lt_int (i j : Int) : opLt (.int i) (.int j) S = .ok (.bl (decide (i < j))) S := rfl
@[simp] theorem op_le_int (i j : Int) : opLe (.int i) (.int j) S = .ok (.bl (decide (i ≤ j))) S := rfl
@[simp] theorem op_gt_int (i j : Int) : opGt (.int i) (.int j) S = .ok (.bl (decide (j < i))) S := rfl
@[simp] theorem op_ge_int (i j : Int) : opGe (.int i) (.int j) S = .ok (.bl (decide (j ≤ i))) S := rfl
@[simp] theorem op_isN_ (d : D) : opIsN d .non S = .ok (.bl (isN d)) S := rfl
@[simp] theorem op_notN_ (d : D) : opNotN d .non S = .ok (.bl (!isN d)) S := rfl
@[simp] theorem op_max2_ (i j : Int) : opMax2 [.int i, .int j] S = .ok (.int (if j > i then j else i)) S := rfl
@[simp] theorem op_min2_ (i j : Int) : opMin2 [.int i, .int j] S = .ok (.int (if j < i then j else i)) S := rfl
@[simp] theorem len_tup (xs : List D) : opLen [.tup xs] S = .ok (.int xs.length) S := rfl
@[simp] theorem len_lst (xs : List D) : opLen [.lst xs] S = .ok (.int xs.length) S := rfl
@[simp] theorem len_scr (xs : List Int) : opLen [.scr xs] S = .ok (.int xs.length) S := rfl
@[simp] theorem len_set (xs : List Int) : opLen [.set xs] S = .ok (.int xs.length) S := rfl
@[simp] theorem ix_tup_ (xs : List D) (i : Int) : opIx (.tup xs) (.int i) S = match atI xs i with
  | some d => .ok d S
  | none => .stuck := rfl
@[simp] theorem ix_lst_ (xs : List D) (i : Int) : opIx (.lst xs) (.int i) S = match atI xs i with
  | some d => .ok d S
  | none => .stuck := rfl
@[simp] theorem ix_scr_ (xs : List Int) (i : Int) : opIx (.scr xs) (.int i) S = match atI (xs.map D.int) i with
  | some d => .ok d S
  | none => .stuck := rfl
theorem ix_loc_ {n : Nat} {xs : List D} {i : Int} (h : S[n]? = some (.lst xs)) : opIx (.loc n) (.int i) S = match atI xs i with
  | some d => .ok d S
  | none => .stuck := by
  unfold opIx dicOf seqOf
  simp only [h]
  all_goals rfl
theorem len_loc {n : Nat} {xs : List D} (h : S[n]? = some (.lst xs)) : opLen [.loc n] S = .ok (.int xs.length) S := by
  unfold opLen
  simp only [h]
  rfl
theorem put_loc {n : Nat} {xs : List D} {i : Int} {d : D} (h : S[n]? = some (.lst xs)) : putS (.loc n) (.int i) d S = match ixN xs.length i with
  | some j => some (S.set n (.lst (xs.set j d)))
  | none => none := by
  unfold putS
  simp only [h]
  all_goals rfl
theorem app_loc {n : Nat} {xs : List D} {d : D} (h : S[n]? = some (.lst xs)) (hl : xs.length < sizeLine) : opAppend (.loc n) [d] S = .ok .non (S.set n (.lst (xs ++ [d]))) := by
  unfold opAppend
  simp only [h, if_pos hl]
theorem isLst_loc {n : Nat} {xs : List D} (h : S[n]? = some (.lst xs)) : isLst (.loc n) S = true := by
  unfold isLst lstOf
  simp only [h]
  rfl
theorem atI_ok {α : Type} {xs : List α} {i : Int} {d : α} (h : 0 ≤ i) (e : xs[i.toNat]? = some d) : atI xs i = some d := by
  have hl := (List.getElem?_eq_some_iff.mp e).1
  unfold L2.atI ixN
  rw [if_pos h, if_pos (by omega)]
  exact e
theorem ixN_ok {n : Nat} {i : Int} (h : 0 ≤ i) (h2 : i < n) : ixN n i = some i.toNat := by
  unfold ixN
  rw [if_pos h, if_pos h2]
end
@[simp] theorem eq_str (S : List D) (a b : Str) : opEq (.str a) (.str b) S = .ok (.bl (decide (a = b))) S := rfl
@[simp] theorem ne_str (S : List D) (a b : Str) : opNe (.str a) (.str b) S = .ok (.bl (!decide (a = b))) S := rfl
@[simp] theorem eq_int (S : List D) (a b : Int) : opEq (.int a) (.int b) S = .ok (.bl (decide (a = b))) S := rfl
@[simp] theorem ne_int (S : List D) (a b : Int) : opNe (.int a) (.int b) S = .ok (.bl (!decide (a = b))) S := rfl
/-! ### places of the store -/
section
variable (S : List D) {n : Nat}
@[simp] theorem ix_loc (i : D) : opIx (.loc n) i S = match S[n]? with
  | some (.lst xs) => opIx (.lst xs) i S
  | some (.dic ks ds) => opIx (.dic ks ds) i S
  | _ => .stuck := by
  unfold opIx dicOf seqOf
  dsimp only
  cases S[n]? with
  | none => cases i <;> rfl
  | some d => cases d <;> first | rfl | (cases i <;> rfl)
@[simp] theorem len_loc_ : opLen [.loc n] S = match S[n]? with
  | some d => (match lenD d with
    | some m => .ok (.int m) S
    | none => .stuck)
  | none => .stuck := rfl
@[simp] theorem lenD_lst (xs : List D) : lenD (.lst xs) = some xs.length := rfl
@[simp] theorem lenD_dic (ks : List Key) (ds : List D) : lenD (.dic ks ds) = some ks.length := rfl
@[simp] theorem lenD_set (xs : List Int) : lenD (.set xs) = some xs.length := rfl
@[simp] theorem put_loc_ (i d : D) : putS (.loc n) i d S = match S[n]? with
  | some (.lst xs) => (match i with
    | .int k => (match ixN xs.length k with
      | some j => some (S.set n (.lst (xs.set j d)))
      | none => none)
    | _ => none)
  | some (.dic ks ds) => (match keyOf i with
    | some k => if ks.length < sizeLine then some (S.set n (.dic (putDk ks k) (putDv ks ds k d))) else none
    | none => none)
  | _ => none := rfl
@[simp] theorem app_loc_ (d : D) : opAppend (.loc n) [d] S = match S[n]? with
  | some (.lst xs) => if xs.length < sizeLine then .ok .non (S.set n (.lst (xs ++ [d]))) else .stuck
  | _ => .stuck := rfl
@[simp] theorem pop_loc_ (ls : List D) : opPop (.loc n) ls S = match S[n]? with
  | some (.lst xs) => (match ls with
    | [] => (match xs[xs.length - 1]? with
      | some d => .ok d (S.set n (.lst xs.dropLast))
      | none => .stuck)
    | [.int i] => if (decide (-(2 ^ 63) ≤ i) && decide (i < 2 ^ 63)) = true then (match seqIndex? i xs.length with
      | some k => (match xs[k]? with
        | some d => .ok d (S.set n (.lst (xs.eraseIdx k)))
        | none => .stuck)
      | none => .stuck) else .stuck
    | _ => .stuck)
  | _ => .stuck := rfl
@[simp] theorem isLst_loc_ : isLst (.loc n) S = match S[n]? with
  | some (.lst _) => true
  | _ => false := by
  unfold isLst lstOf
  dsimp only
  cases S[n]? with
  | none => rfl
  | some d => cases d <;> rfl
@[simp] theorem isSet_loc_ : isSet (.loc n) S = match S[n]? with
  | some (.set _) => true
  | _ => false := rfl
@[simp] theorem isDic_loc_ : isDic (.loc n) S = match S[n]? with
  | some (.dic _ _) => true
  | _ => false := by
  unfold isDic dicOf
  dsimp only
  cases S[n]? with
  | none => rfl
  | some d => cases d <;> rfl
@[simp] theorem setd_loc_ (k z : D) : opSetd (.loc n) k z S = match S[n]? with
  | some (.dic ks ds) => (match keyOf k with
    | some k => if ks.length < sizeLine then (match valD ks ds k with
      | some d => .ok d S
      | none => .ok z (S.set n (.dic (putDk ks k) (putDv ks ds k z)))) else .stuck
    | none => .stuck)
  | _ => .stuck := rfl
@[simp] theorem sadd_loc_ (k : Int) : opSAdd (.loc n) [.int k] S = match S[n]? with
  | some (.set xs) => if xs.length + 1 < scanBound then .ok .non (S.set n (.set (if k ∈ xs then xs else xs ++ [k]))) else .stuck
  | _ => .stuck := rfl
@[simp] theorem tup_tup (xs : List D) : opTup (.tup xs) S = .ok (.tup xs) S := rfl
@[simp] theorem tup_lst (xs : List D) : opTup (.lst xs) S = .ok (.tup xs) S := rfl
@[simp] theorem tup_loc : opTup (.loc n) S = match S[n]? with
  | some (.lst xs) => .ok (.tup xs) S
  | _ => .stuck := by
  unfold opTup lstR lstOf
  dsimp only
  cases S[n]? with
  | none => rfl
  | some d => cases d <;> rfl
theorem mulOk_l {i j : Int} (h1 : -(2 ^ 64) < i) (h2 : i < 2 ^ 64) : mulOk i j = true := by
  unfold mulOk
  rw [decide_eq_true h1, decide_eq_true h2]; rfl
theorem mulOk_r {i j : Int} (h1 : -(2 ^ 64) < j) (h2 : j < 2 ^ 64) : mulOk i j = true := by
  unfold mulOk
  rw [decide_eq_true h1, decide_eq_true h2, Bool.and_self, Bool.or_true]
/-! the places behind S -/
@[simp] theorem at0 (x : D) (J : List D) : (S ++ x :: J)[S.length]? = some x := by rw [List.getElem?_append_right (Nat.le_refl _)]; simp
@[simp] theorem at1 (x y : D) (J : List D) : (S ++ x :: y :: J)[S.length + 1]? = some y := by rw [List.getElem?_append_right (by omega)]; simp
@[simp] theorem at2 (x y z : D) (J : List D) : (S ++ x :: y :: z :: J)[S.length + 2]? = some z := by rw [List.getElem?_append_right (by omega)]; simp
@[simp] theorem set0 (x z : D) (J : List D) : (S ++ x :: J).set S.length z = S ++ z :: J := by rw [List.set_append_right _ _ (Nat.le_refl _)]; simp
@[simp] theorem set1 (x y z : D) (J : List D) : (S ++ x :: y :: J).set (S.length + 1) z = S ++ x :: z :: J := by rw [List.set_append_right _ _ (by omega)]; simp
@[simp] theorem set2 (x y w z : D) (J : List D) : (S ++ x :: y :: w :: J).set (S.length + 2) z = S ++ x :: y :: z :: J := by rw [List.set_append_right _ _ (by omega)]; simp
theorem at_l {J : List D} (h : n < S.length) : (S ++ J)[n]? = S[n]? := List.getElem?_append_left h
theorem set_l {J : List D} {z : D} (h : n < S.length) : (S ++ J).set n z = S.set n z ++ J := by rw [List.set_append_left _ _ h]
end
@[simp] theorem atI_0 {α : Type} (x : α) (xs : List α) : atI (x :: xs) 0 = some x := atI_ok (by decide) rfl
@[simp] theorem atI_1 {α : Type} (x y : α) (xs : List α) : atI (x :: y :: xs) 1 = some y := atI_ok (by decide) rfl
@[simp] theorem atI_2 {α : Type} (x y z : α) (xs : List α) : atI (x :: y :: z :: xs) 2 = some z := atI_ok (by decide) rfl
theorem line_big {n : Nat} (h : n ≤ 16777216) : n ≤ sizeLine := by rw [sizeLine_eq]; exact h
/-! ### loops -/
theorem forL_inv {g : GD} {b : FS} (P : Nat → DS → List D → Prop) : ∀ (xs : List D) (k : Nat) (ds : DS) (S : List D), P k ds S →
    (∀ i d, xs[i]? = some d → ∀ ds S, P (k + i) ds S → ∃ ds1 ds2 S2, g d ds S = some ds1 ∧ b ds1 S = .nx ds2 S2 ∧ P (k + i + 1) ds2 S2) → ∃ ds' S', forL g b xs ds S = .nx ds' S' ∧ P (k + xs.length) ds' S'
  | [], k, ds, S, h, _ => ⟨ds, S, rfl, h⟩
  | d :: xs, k, ds, S, h, st => by
    obtain ⟨ds1, ds2, S2, e1, e2, h2⟩ := st 0 d rfl ds S h
    obtain ⟨ds', S', e3, h3⟩ := forL_inv P xs (k + 1) ds2 S2 h2 fun i e he ds S hp => by
      have := st (i + 1) e (by simpa using he) ds S (by rw [show k + (i + 1) = k + 1 + i by omega]; exact hp)
      rwa [show k + (i + 1) + 1 = k + 1 + i + 1 by omega] at this
    refine ⟨ds', S', ?_, by rw [List.length_cons, show k + (xs.length + 1) = k + 1 + xs.length by omega]; exact h3⟩
    rw [ev_forL, e1]
    dsimp only
    rw [e2]
    exact e3
/-- every element by itself, the store as it is -/
theorem compL_pure {g : GD} {tt : FT} {fe : FE} {ds : DS} {S : List D} {p : D → Bool} {f : D → D} : ∀ (xs acc : List D), (∀ x ∈ xs, ∃ ds', g x ds S = some ds' ∧ tt ds' S = .ok (p x) S ∧ (p x = true → fe ds' S = .ok (f x) S)) → acc.length + xs.length ≤ sizeLine →
    compL g tt fe ds xs acc S = .ok (acc ++ (xs.filter p).map f) S
  | [], acc, _, _ => by simp [compL]
  | x :: xs, acc, h, hl => by
    obtain ⟨ds', e1, e2, e3⟩ := h x List.mem_cons_self
    rw [List.length_cons] at hl
    unfold compL
    rw [e1]
    dsimp only
    rw [e2]
    cases hp : p x with
    | true =>
      dsimp only
      rw [e3 hp]
      dsimp only
      rw [if_pos (by omega), compL_pure xs _ (fun y hy => h y (List.mem_cons_of_mem _ hy)) (by simp; omega), List.filter_cons_of_pos hp, List.map_cons, List.append_assoc]
      rfl
    | false =>
      dsimp only
      rw [compL_pure xs _ (fun y hy => h y (List.mem_cons_of_mem _ hy)) (by omega), List.filter_cons_of_neg (by rw [hp]; exact Bool.false_ne_true)]
/-- elements that change the store -/
theorem compL_inv {g : GD} {fe : FE} {ds : DS} (P : Nat → List D → List D → Prop) : ∀ (xs acc S : List D) (k : Nat), P k acc S →
    (∀ i d, xs[i]? = some d → ∀ acc S, P (k + i) acc S → ∃ ds' y S', g d ds S = some ds' ∧ fe ds' S = .ok y S' ∧ acc.length < sizeLine ∧ P (k + i + 1) (acc ++ [y]) S') → ∃ ys S', compL g tYesD fe ds xs acc S = .ok ys S' ∧ P (k + xs.length) ys S'
  | [], acc, S, k, h, _ => ⟨acc, S, rfl, h⟩
  | d :: xs, acc, S, k, h, st => by
    obtain ⟨ds', y, S', e1, e2, hl, h2⟩ := st 0 d rfl acc S h
    obtain ⟨ys, S2, e3, h3⟩ := compL_inv P xs (acc ++ [y]) S' (k + 1) h2 fun i e he acc S hp => by
      have := st (i + 1) e (by simpa using he) acc S (by rw [show k + (i + 1) = k + 1 + i by omega]; exact hp)
      rwa [show k + (i + 1) + 1 = k + 1 + i + 1 by omega] at this
    refine ⟨ys, S2, ?_, by rw [List.length_cons, show k + (xs.length + 1) = k + 1 + xs.length by omega]; exact h3⟩
    unfold compL
    rw [e1]
    dsimp only
    rw [ev_yes]
    dsimp only
    rw [e2]
    dsimp only
    rw [if_pos hl]
    exact e3
/-- the members in their first order -/
def dedup (acc : List Int) : List Int → List Int
  | [] => acc
  | c :: cs => dedup (if c ∈ acc then acc else acc ++ [c]) cs
theorem dedup_len : ∀ (cs acc : List Int), (dedup acc cs).length ≤ acc.length + cs.length
  | [], acc => by unfold dedup; simp
  | c :: cs, acc => by
    unfold dedup
    have := dedup_len cs (if c ∈ acc then acc else acc ++ [c])
    have h2 : (if c ∈ acc then acc else acc ++ [c]).length ≤ acc.length + 1 := by split <;> simp
    rw [List.length_cons]; omega
theorem setL_pure {g : GD} {tt : FT} {fe : FE} {ds : DS} {S : List D} {p : D → Bool} {f : D → Int} : ∀ (xs : List D) (acc : List Int), (∀ x ∈ xs, ∃ ds', g x ds S = some ds' ∧ tt ds' S = .ok (p x) S ∧ (p x = true → fe ds' S = .ok (.int (f x)) S)) → acc.length + xs.length + 1 < scanBound →
    setL g tt fe ds xs acc S = .ok (dedup acc ((xs.filter p).map f)) S
  | [], acc, _, _ => by simp [setL, dedup]
  | x :: xs, acc, h, hl => by
    obtain ⟨ds', e1, e2, e3⟩ := h x List.mem_cons_self
    rw [List.length_cons] at hl
    unfold setL
    rw [e1]
    dsimp only
    rw [e2]
    cases hp : p x with
    | true =>
      dsimp only
      rw [e3 hp]
      dsimp only
      have h2 : (if f x ∈ acc then acc else acc ++ [f x]).length ≤ acc.length + 1 := by split <;> simp
      rw [if_pos (by omega), setL_pure xs _ (fun y hy => h y (List.mem_cons_of_mem _ hy)) (by omega), List.filter_cons_of_pos hp, List.map_cons]
      rfl
    | false =>
      dsimp only
      rw [setL_pure xs _ (fun y hy => h y (List.mem_cons_of_mem _ hy)) (by omega), List.filter_cons_of_neg (by rw [hp]; exact Bool.false_ne_true)]
end Dl

set_option Elab.async false
set_option linter.all false
set_option maxRecDepth 100000
set_option maxHeartbeats 4000000
/-! Dl16: junk cut off; the pen and the other common defs of the laws. -/
namespace Dl
open PySem PySem.Spec PyProof.Rows L2

/-- a def's new places cut off, where its answer does not need them -/
def cutF (F : FD) : FD := fun args S => match F args S with
  | .ok d S' => if (decide (S.length ≤ S'.length) && (bd S.length d && (S'.take S.length).all (bd S.length))) = true then .ok d (S'.take S.length) else .stuck
  | .exc c ns fs S' => if (decide (S.length ≤ S'.length) && (bdL S.length fs && (S'.take S.length).all (bd S.length))) = true then .exc c ns fs (S'.take S.length) else .stuck
  | .stuck => .stuck
theorem less_cut (F : FD) (args S : List D) : Less S.length (F args S) (cutF F args S) := by
  unfold cutF
  cases F args S with
  | stuck => exact .stuck
  | ok d S' =>
    dsimp only
    split
    · rename_i h
      rw [Bool.and_eq_true, Bool.and_eq_true, decide_eq_true_eq, List.all_eq_true] at h
      have hl : (S'.take S.length).length = S.length := by rw [List.length_take]; omega
      have := Less.ok (n := S.length) (d := d) (e := d) (S' := S'.take S.length) (J := S'.drop S.length) (by omega) (fun e he => by rw [hl]; exact h.2.2 e he) (.same (by rw [hl]; exact h.2.1))
      rwa [List.take_append_drop] at this
    · exact .stuck
  | exc c ns fs S' =>
    dsimp only
    split
    · rename_i h
      rw [Bool.and_eq_true, Bool.and_eq_true, decide_eq_true_eq, List.all_eq_true] at h
      have hl : (S'.take S.length).length = S.length := by rw [List.length_take]; omega
      have := Less.exc (n := S.length) (c := c) (ns := ns) (fs := fs) (es := fs) (S' := S'.take S.length) (J := S'.drop S.length) (by omega) (fun e he => by rw [hl]; exact h.2.2 e he) (.same (by rw [hl]; exact h.2.1))
      rwa [List.take_append_drop] at this
    · exact .stuck
theorem cut_ok {F : FD} {args S S' J : List D} {d : D} (h : F args S = .ok d (S' ++ J)) (hl : S'.length = S.length) (hd : bd S.length d = true) (hS : ∀ e ∈ S', bd S.length e = true) : cutF F args S = .ok d S' := by
  unfold cutF
  rw [h]
  dsimp only
  have e : (S' ++ J).take S.length = S' := by rw [← hl, List.take_left]
  rw [e, if_pos]
  rw [Bool.and_eq_true, Bool.and_eq_true, decide_eq_true_eq, List.all_eq_true]
  exact ⟨by rw [List.length_append]; omega, hd, hS⟩
/-! ### data without places -/
mutual
def flat : D → Bool
  | .tup ds => flatL ds
  | .lst ds => flatL ds
  | .dic _ ds => flatL ds
  | .obj _ _ _ => false
  | .lkd _ _ => false
  | .loc _ => false
  | _ => true
def flatL : List D → Bool
  | [] => true
  | d :: ds => flat d && flatL ds
end
mutual
theorem bd_flat (n : Nat) : ∀ {d : D}, flat d = true → bd n d = true
  | .tup ds, h => by unfold flat at h; unfold bd; exact bdL_flat n h
  | .lst ds, h => by unfold flat at h; unfold bd; exact bdL_flat n h
  | .dic _ ds, h => by unfold flat at h; unfold bd; exact bdL_flat n h
  | .non, _ => by unfold bd; rfl
  | .bl _, _ => by unfold bd; rfl
  | .int _, _ => by unfold bd; rfl
  | .str _, _ => by unfold bd; rfl
  | .set _, _ => by unfold bd; rfl
  | .scr _, _ => by unfold bd; rfl
theorem bdL_flat (n : Nat) : ∀ {ds : List D}, flatL ds = true → bdL n ds = true
  | [], _ => by unfold bdL; rfl
  | d :: ds, h => by
    unfold flatL at h
    rw [Bool.and_eq_true] at h
    unfold bdL
    rw [bd_flat n h.1, bdL_flat n h.2]; rfl
end
@[simp] theorem flat_int (i : Int) : flat (.int i) = true := by unfold flat; rfl
@[simp] theorem flat_non : flat .non = true := by unfold flat; rfl
@[simp] theorem flat_bl (b : Bool) : flat (.bl b) = true := by unfold flat; rfl
@[simp] theorem flat_str (x : Str) : flat (.str x) = true := by unfold flat; rfl
@[simp] theorem flat_tup (ds : List D) : flat (.tup ds) = flatL ds := by conv => lhs; unfold flat
@[simp] theorem flat_lst (ds : List D) : flat (.lst ds) = flatL ds := by conv => lhs; unfold flat
@[simp] theorem flatL_nil : flatL [] = true := by unfold flatL; rfl
@[simp] theorem flatL_cons (d : D) (ds : List D) : flatL (d :: ds) = (flat d && flatL ds) := by conv => lhs; unfold flatL
theorem flatL_iff {ds : List D} : flatL ds = true ↔ ∀ d ∈ ds, flat d = true := by
  induction ds with
  | nil => simp
  | cons d ds ih => rw [flatL_cons, Bool.and_eq_true, ih]; simp
theorem flatL_ints (ns : List Int) : flatL (ns.map .int) = true := flatL_iff.mpr fun d h => by
  obtain ⟨i, _, rfl⟩ := List.mem_map.mp h
  simp

/-! ### data that repr takes -/
def Shw (d : D) (w k : Nat) : Prop := ∃ p, toPy d = some p ∧ p.leavesShort 100 = true ∧ p.showable = true ∧ p.hasDict = false ∧ p.weight ≤ w ∧ p.depth ≤ k
theorem Shw.mono {d : D} {w k w' k' : Nat} (h : Shw d w k) (hw : w ≤ w') (hk : k ≤ k') : Shw d w' k' := by
  obtain ⟨p, h1, h2, h3, h4, h5, h6⟩ := h
  exact ⟨p, h1, h2, h3, h4, by omega, by omega⟩
theorem shw_non : Shw .non 0 0 := ⟨.none, by unfold toPy; rfl, by unfold PyData.leavesShort; rfl, by unfold PyData.showable; rfl, by unfold PyData.hasDict; rfl, by unfold PyData.weight; omega, by unfold PyData.depth; omega⟩
theorem shw_bl (b : Bool) : Shw (.bl b) 0 0 := ⟨.bool b, by unfold toPy; rfl, by unfold PyData.leavesShort; rfl, by unfold PyData.showable; rfl, by unfold PyData.hasDict; rfl, by unfold PyData.weight; omega, by unfold PyData.depth; omega⟩
theorem shw_int {i : Int} {w : Nat} (h : i.natAbs < 2 ^ w) (hw : w ≤ 250) : Shw (.int i) w 0 := by
  have h300 : i.natAbs < 2 ^ 250 := Nat.lt_of_lt_of_le h (Nat.pow_le_pow_right (by decide) hw)
  have h99 : i.natAbs < 10 ^ 99 := Nat.lt_trans h300 (by decide +kernel)
  refine ⟨.int i, by unfold toPy; rfl, ?_, ?_, by unfold PyData.hasDict; rfl, ?_, by unfold PyData.depth; omega⟩
  · unfold PyData.leavesShort
    refine decide_eq_true ?_
    have e := int_text_length_le10 (k := 99) (by decide) h99
    show (Str.ofString (toString i)).length ≤ 100
    rw [PySem.ofString_length]; exact e
  · unfold PyData.showable
    refine decide_eq_true ?_
    by_cases h0 : i.natAbs = 0
    · rw [h0]; decide
    · have := (Nat.log2_lt h0).mpr h300
      omega
  · unfold PyData.weight
    split
    · omega
    · rename_i hz
      have h0 : i.natAbs ≠ 0 := fun q => hz (by rw [Int.natAbs_eq_zero.mp q]; rfl)
      have := (Nat.log2_lt h0).mpr h
      omega
theorem shw_all {w k : Nat} : ∀ {ds : List D}, (∀ d ∈ ds, Shw d w k) → ∃ ps, toPyL ds = some ps ∧ PyData.leavesShortAll 100 ps = true ∧ PyData.showableAll ps = true ∧ PyData.hasDictAll ps = false ∧ PyData.weightAll ps ≤ ds.length * (w + 1) ∧ PyData.depthAll ps ≤ k
  | [], _ => ⟨[], by unfold toPyL; rfl, by unfold PyData.leavesShortAll; rfl, by unfold PyData.showableAll; rfl, by unfold PyData.hasDictAll; rfl, by unfold PyData.weightAll; omega, by unfold PyData.depthAll; omega⟩
  | d :: ds, h => by
    obtain ⟨p, h1, h2, h3, h4, h5, h6⟩ := h d List.mem_cons_self
    obtain ⟨ps, g1, g2, g3, g4, g5, g6⟩ := shw_all (ds := ds) fun e he => h e (List.mem_cons_of_mem _ he)
    refine ⟨p :: ps, by unfold toPyL; rw [h1, g1], by unfold PyData.leavesShortAll; rw [h2, g2]; rfl, by unfold PyData.showableAll; rw [h3, g3]; rfl, by unfold PyData.hasDictAll; rw [h4, g4]; rfl, ?_, by unfold PyData.depthAll; omega⟩
    unfold PyData.weightAll
    rw [List.length_cons, Nat.succ_mul]
    omega
theorem shw_tup {w k : Nat} {ds : List D} (h : ∀ d ∈ ds, Shw d w k) : Shw (.tup ds) (ds.length * (w + 1)) (k + 1) := by
  obtain ⟨ps, g1, g2, g3, g4, g5, g6⟩ := shw_all h
  exact ⟨.tuple ps, by unfold toPy; rw [g1]; rfl, by unfold PyData.leavesShort; exact g2, by unfold PyData.showable; exact g3, by unfold PyData.hasDict; exact g4, by unfold PyData.weight; exact g5, by unfold PyData.depth; omega⟩
theorem shw_lst {w k : Nat} {ds : List D} (h : ∀ d ∈ ds, Shw d w k) : Shw (.lst ds) (ds.length * (w + 1)) (k + 1) := by
  obtain ⟨ps, g1, g2, g3, g4, g5, g6⟩ := shw_all h
  exact ⟨.list ps, by unfold toPy; rw [g1]; rfl, by unfold PyData.leavesShort; exact g2, by unfold PyData.showable; exact g3, by unfold PyData.hasDict; exact g4, by unfold PyData.weight; exact g5, by unfold PyData.depth; omega⟩
theorem Shw.ok {d : D} {w k : Nat} (h : Shw d w k) (hw : w ≤ 150000) (hk : k ≤ 62) : ∃ p, (∀ S, toPyS d S = some p) ∧ reprOk p = true := by
  obtain ⟨p, h1, h2, h3, h4, h5, h6⟩ := h
  refine ⟨p, fun S => ?_, ?_⟩
  · unfold toPyS
    cases d with
    | loc n => unfold toPy at h1; cases h1
    | _ => exact h1
  · have := PyData.shown_le 100 (by decide) p h2
    unfold reprOk
    rw [h3, h4, decide_eq_true (show p.depth ≤ 62 by omega), decide_eq_true (show p.shown.length ≤ 16000000 by omega)]
    rfl
/-! ### the pen -/
def PenD (x : D) : Prop := ∃ a b c : Int, x = .lst [.int a, .int b, .int c] ∧ 0 ≤ a ∧ 0 ≤ b ∧ b < 2147483648 ∧ 0 ≤ c
theorem PenD.flat {x : D} (p : PenD x) : Dl.flat x = true := by
  obtain ⟨a, b, c, rfl, _⟩ := p
  simp
namespace C
def b_law_cell : FS := (sSeq (sIf (tVal (eOp opLt (eVar 1) (eCall opLen (aCons (eVar 0) aNil))))
  (sRet (eOp opIx (eVar 0) (eVar 1)))
  sNil)
  (sRet (eC (.int 0))))
def F_law_cell : FD := runD 0 b_law_cell
def b_law_pen : FS := (sRet (eNew (aCons (eCall opMax2 (aCons (eC (.int 0)) (aCons (eOp opSub (eVar 0) (eOp opPow (eC (.int 10)) (eC (.int 18)))) aNil))) (aCons (eOp opAdd (eOp opMod (eVar 0) (eC (.int 2147483629))) (eC (.int 1))) (aCons (eC (.int 0)) aNil)))))
def F_law_pen : FD := runD 0 b_law_pen
def b_law_draw : FS := (sSeq (sIf (tVal (eOp opGt (eOp opIx (eVar 0) (eC (.int 0))) (eC (.int 0))))
  (sSeq (sSet 3 (eOp opMod (eOp opIx (eVar 0) (eC (.int 0))) (eVar 1)))
  (sSeq (sPut (eOp opDiv (eOp opIx (eVar 0) (eC (.int 0))) (eVar 1)) (eVar 0) (eC (.int 0)))
  (sRet (eVar 3))))
  sNil)
  (sSeq (sPut (eOp opAdd (eOp opIx (eVar 0) (eC (.int 2))) (eC (.int 1))) (eVar 0) (eC (.int 2)))
  (sSeq (sPut (eOp opMod (eOp opAdd (eOp opAdd (eOp opMul (eOp opIx (eVar 0) (eC (.int 1))) (eC (.int 48271))) (eOp opMul (eC (.int 1009)) (eOp opIx (eVar 0) (eC (.int 2))))) (eC (.int 7))) (eC (.int 2147483647))) (eVar 0) (eC (.int 1)))
  (sSeq (sSet 2 (eOp opMod (eOp opAdd (eOp opAdd (eOp opMul (eOp opIx (eVar 0) (eC (.int 1))) (eOp opIx (eVar 0) (eC (.int 1)))) (eOp opMul (eC (.int 69621)) (eOp opIx (eVar 0) (eC (.int 1))))) (eC (.int 11))) (eC (.int 2147483629))))
  (sSeq (sSet 2 (eOp opMod (eOp opAdd (eOp opMul (eVar 2) (eVar 2)) (eOp opMul (eC (.int 40014)) (eVar 2))) (eC (.int 2147483587))))
  (sRet (eOp opMod (eOp opDiv (eVar 2) (eC (.int 16))) (eVar 1))))))))
def F_law_draw : FD := runD 2 b_law_draw
def b_law_pick : FS := (sRet (eOp opIx (eVar 1) (eFn F_law_draw (aCons (eVar 0) (aCons (eCall opLen (aCons (eVar 1) aNil)) aNil)))))
def F_law_pick : FD := runD 0 b_law_pick
def b_law_same : FS := (sRet (eOp opEq (eCall opRepr (aCons (eVar 0) aNil)) (eCall opRepr (aCons (eVar 1) aNil))))
def F_law_same : FD := runD 0 b_law_same
theorem cell (ns : List Int) (k : Nat) (S : List D) : F_law_cell [.scr ns, .int k] S = .ok (.int (ns.getD k 0)) S := by
  unfold F_law_cell runD b_law_cell
  by_cases h : k < ns.length
  · have e : atI (ns.map D.int) (k : Int) = some (.int (ns.getD k 0)) := atI_ok (by omega) (by
      rw [Int.toNat_natCast, List.getElem?_map, List.getElem?_eq_getElem h, List.getD_eq_getElem?_getD, List.getElem?_eq_getElem h]; rfl)
    simp [h, e]
  · simp [h]
theorem pen (c : Int) (S : List D) : ∃ x, PenD x ∧ F_law_pen [.int c] S = .ok (.loc S.length) (S ++ [x]) := by
  refine ⟨.lst [.int (if c - 10 ^ 18 > 0 then c - 10 ^ 18 else 0), .int (c % 2147483629 + 1), .int 0], ⟨_, _, _, rfl, by split <;> omega, by omega, by omega, by omega⟩, ?_⟩
  have e : opPow (.int 10) (.int 18) S = .ok (.int (10 ^ 18)) S := rfl
  unfold F_law_pen runD b_law_pen
  simp [e, op_mod_ok, line_big]
theorem draw {S : List D} {n : Nat} {x : D} {u : Int} (h : S[n]? = some x) (p : PenD x) (hu : 0 < u) (hu2 : u < 1073741824) :
    ∃ d y, 0 ≤ d ∧ d < u ∧ PenD y ∧ F_law_draw [.loc n, .int u] S = .ok (.int d) (S.set n y) := by
  have hs : ∀ z, (S.set n z)[n]? = some z := fun z => List.getElem?_set_self (List.getElem?_eq_some_iff.mp h).1
  obtain ⟨a, b, c, rfl, a0, b0, b1, c0⟩ := p
  by_cases ha : 0 < a
  · refine ⟨a % u, _, Int.emod_nonneg _ (by omega), Int.emod_lt_of_pos _ hu, ⟨a / u, b, c, rfl, Int.ediv_nonneg a0 (by omega), b0, b1, c0⟩, ?_⟩
    unfold F_law_draw runD b_law_draw
    simp [h, ha, op_mod_ok _ hu, op_div_ok _ hu hu2, ixN]
  · obtain ⟨b', hb'⟩ : ∃ x, x = (b * 48271 + 1009 * (c + 1) + 7) % 2147483647 := ⟨_, rfl⟩
    obtain ⟨t, ht⟩ : ∃ x, x = (b' * b' + 69621 * b' + 11) % 2147483629 := ⟨_, rfl⟩
    obtain ⟨t', ht'⟩ : ∃ x, x = (t * t + 40014 * t) % 2147483587 := ⟨_, rfl⟩
    have m1 : mulOk b' b' = true := mulOk_l (by omega) (by omega)
    have m2 : mulOk t t = true := mulOk_l (by omega) (by omega)
    refine ⟨t' / 16 % u, _, Int.emod_nonneg _ (by omega), Int.emod_lt_of_pos _ hu, ⟨a, b', c + 1, rfl, a0, by omega, by omega, by omega⟩, ?_⟩
    unfold F_law_draw runD b_law_draw
    simp [h, ha, hs, op_mod_ok _ hu, op_div_ok, op_mod_ok, op_mul_ok, mulOk_l, mulOk_r, ixN, ← hb', ← ht, ← ht', m1, m2]
theorem pick {S : List D} {n : Nat} {x : D} {ls : List D} (h : S[n]? = some x) (p : PenD x) (h0 : ls ≠ []) (h2 : ls.length < 1073741824) :
    ∃ d y, d ∈ ls ∧ PenD y ∧ F_law_pick [.loc n, .lst ls] S = .ok d (S.set n y) := by
  have hp : 0 < ls.length := List.length_pos_iff.mpr h0
  obtain ⟨i, y, i0, i1, py, e⟩ := draw (u := ls.length) h p (by omega) (by omega)
  have hi : i.toNat < ls.length := by omega
  refine ⟨ls[i.toNat], y, List.getElem_mem hi, py, ?_⟩
  unfold F_law_pick runD b_law_pick
  have e2 : atI ls i = some ls[i.toNat] := atI_ok i0 (List.getElem?_eq_getElem hi)
  simp [e, e2]
/-- the same data, shown -/
theorem same {S : List D} {x y : D} {p q : PyData} (hx : toPyS x S = some p) (hy : toPyS y S = some q) (kp : reprOk p = true) (kq : reprOk q = true) : F_law_same [x, y] S = .ok (.bl (decide (p.shown = q.shown))) S := by
  unfold F_law_same runD b_law_same
  have e1 : opRepr [x] S = .ok (.str p.shown) S := by unfold opRepr; simp [hx, kp]
  have e2 : opRepr [y] S = .ok (.str q.shown) S := by unfold opRepr; simp [hy, kq]
  simp [e1, e2]
theorem same_eq {S : List D} {x : D} {w k : Nat} (h : Shw x w k) (hw : w ≤ 150000) (hk : k ≤ 62) : F_law_same [x, x] S = .ok (.bl true) S := by
  obtain ⟨p, h1, h2⟩ := h.ok hw hk
  rw [same (h1 S) (h1 S) h2 h2, decide_eq_true rfl]
theorem repr_ok {x : D} {w k : Nat} (h : Shw x w k) (hw : w ≤ 150000) (hk : k ≤ 62) : ∃ z, ∀ S, opRepr [x] S = .ok (.str z) S := by
  obtain ⟨p, h1, h2⟩ := h.ok hw hk
  exact ⟨p.shown, fun S => by unfold opRepr; simp [h1 S, h2]⟩
end C
end Dl

set_option Elab.async false
set_option linter.all false
set_option maxRecDepth 100000
set_option maxHeartbeats 4000000
/-! Dl17: the tables that the laws draw. -/
namespace Dl
open PySem PySem.Spec PyProof.Rows L2

section
variable {S J : List D} {n : Nat} {x y z a b : D}
theorem pen_at (h : n < S.length) : (S.set n x ++ J)[n]? = some x := by
  rw [List.getElem?_append_left (by rw [List.length_set]; exact h), List.getElem?_set_self h]
theorem pen_set (h : n < S.length) : (S.set n x ++ J).set n y = S.set n y ++ J := by
  rw [List.set_append_left _ _ (by rw [List.length_set]; exact h), List.set_set]
@[simp] theorem at0s : (S.set n x ++ a :: J)[S.length]? = some a := by
  have := at0 (S.set n x) a J
  rwa [List.length_set] at this
@[simp] theorem at1s : (S.set n x ++ a :: b :: J)[S.length + 1]? = some b := by
  have := at1 (S.set n x) a b J
  rwa [List.length_set] at this
@[simp] theorem set0s : (S.set n x ++ a :: J).set S.length z = S.set n x ++ z :: J := by
  have := set0 (S.set n x) a z J
  rwa [List.length_set] at this
@[simp] theorem set1s : (S.set n x ++ a :: b :: J).set (S.length + 1) z = S.set n x ++ a :: z :: J := by
  have := set1 (S.set n x) a b z J
  rwa [List.length_set] at this
end
theorem rangeD_ints (lo : Int) (n : Nat) : rangeD lo n = ((List.range n).map fun i => lo + (i : Nat)).map D.int := by unfold rangeD; rw [List.map_map]; rfl
theorem rangeD_get {lo : Int} {n i : Nat} {d : D} (h : (rangeD lo n)[i]? = some d) : i < n ∧ d = .int (lo + (i : Nat)) := by
  unfold rangeD at h
  rw [List.getElem?_map] at h
  cases hr : (List.range n)[i]? with
  | none => rw [hr] at h; cases h
  | some j =>
    rw [hr] at h; cases h
    obtain ⟨h1, h2⟩ := List.getElem?_eq_some_iff.mp hr
    rw [List.getElem_range] at h2
    subst h2
    exact ⟨by simpa using h1, rfl⟩
@[simp] theorem rangeD_length (lo : Int) (n : Nat) : (rangeD lo n).length = n := by unfold rangeD; simp
theorem rng1_int {j : Int} (h : rngOk j = true) : rng1 [.int j] = some (0, j.toNat) := by unfold rng1; simp [h]
theorem rng2_int {i j : Int} (h : rngOk i = true) (h2 : rngOk j = true) : rng2 [.int i, .int j] = some (i, (j - i).toNat) := by unfold rng2; simp [h, h2]
theorem rngOk_of {i : Int} (h : -4000000 ≤ i) (h2 : i ≤ 4000000) : rngOk i = true := rngOk_iff.mpr ⟨by omega, by omega⟩
theorem seqIndex_in {i : Int} {n : Nat} (h : 0 ≤ i) (h2 : i < n) : seqIndex? i n = some i.toNat := by
  unfold seqIndex?
  have : ¬ i < 0 := by omega
  simp [this, h, h2]
/-- for i in range(n) at a store that a property follows -/
theorem for_range {g : GD} {b : FS} {ds : DS} {S : List D} (P : Nat → DS → List D → Prop) (n : Nat) (h0 : P 0 ds S)
    (st : ∀ i, i < n → ∀ ds S, P i ds S → ∃ ds1 ds2 S2, g (.int (i : Nat)) ds S = some ds1 ∧ b ds1 S = .nx ds2 S2 ∧ P (i + 1) ds2 S2) : ∃ ds' S', forL g b (rangeD 0 n) ds S = .nx ds' S' ∧ P n ds' S' := by
  obtain ⟨ds', S', e, h⟩ := forL_inv (g := g) (b := b) P (rangeD 0 n) 0 ds S h0 fun i d hd ds S hp => by
    obtain ⟨hi, rfl⟩ := rangeD_get hd
    rw [Nat.zero_add] at hp ⊢
    rw [Int.zero_add]
    exact st i hi ds S hp
  exact ⟨ds', S', e, by rwa [Nat.zero_add, rangeD_length] at h⟩
theorem map_erase {α β : Type} {f : α → β} : ∀ {l : List α} {k : Nat}, (l.map f).eraseIdx k = (l.eraseIdx k).map f
  | [], _ => by simp
  | _ :: _, 0 => rfl
  | a :: l, k + 1 => by rw [List.map_cons, List.eraseIdx_cons_succ, List.eraseIdx_cons_succ, List.map_cons, map_erase]
namespace C
def b_law_table : FS := (sSeq (sPar 5 6 (aCons (eOp opAdd (eC (.int 1)) (eFn F_law_draw (aCons (eVar 0) (aCons (eVar 1) aNil)))) (aCons (eNew aNil) aNil)))
  (sSeq (sSet 3 (eListRg true (eVar 5)))
  (sSeq (sFor (iRange rng1 (aCons (eVar 5) aNil)) (gN 4)
  (sSeq (sSet 7 (eOp opMod (eOp opSub (eMt isLst opPop (eVar 3) (aCons (eFn F_law_draw (aCons (eVar 0) (aCons (eCall opLen (aCons (eVar 3) aNil)) aNil))) aNil)) (eVar 4)) (eVar 5)))
  (sSeq (sSet 8 (eOp opAdd (eVar 7) (eOp opMul (eVar 5) (eFn F_law_draw (aCons (eVar 0) (aCons (eOp opAdd (eVar 2) (eC (.int 1))) aNil))))))
  (sExpr (eMt isLst opAppend (eVar 6) (aCons (eIf (tVal (eOp opLt (eVar 8) (eC (.int 61)))) (eVar 8) (eVar 7)) aNil))))))
  (sRet (eThen opTup (eVar 6))))))
def F_law_table : FD := runD 6 b_law_table
/-- a table: ints from 0 to 60, places and holds onto -/
structure Tbl (hs : List Int) (most : Int) : Prop where
  pos : 0 < hs.length
  len : (hs.length : Int) ≤ most
  low : ∀ h ∈ hs, 0 ≤ h ∧ h ≤ 60
theorem table {S : List D} {n : Nat} {x : D} {most times : Int} (h : S[n]? = some x) (p : PenD x) (m0 : 1 ≤ most) (m1 : most ≤ 24) (t0 : 0 ≤ times) (t1 : times ≤ 100) (hb : bdS S) :
    ∃ hs y, Tbl hs most ∧ PenD y ∧ cutF F_law_table [.loc n, .int most, .int times] S = .ok (.tup (hs.map .int)) (S.set n y) := by
  have hn : n < S.length := (List.getElem?_eq_some_iff.mp h).1
  obtain ⟨d, y, d0, d1, py, e1⟩ := draw (u := most) h p (by omega) (by omega)
  let L : Int := 1 + d
  have hL : L = 1 + d := rfl
  let P : Nat → DS → List D → Prop := fun i ds T => ∃ (x z4 z7 z8 : Option D) (q : D) (hs left : List Int), PenD q ∧ hs.length = i ∧ left.length + i = L.toNat ∧ (∀ h ∈ hs, 0 ≤ h ∧ h ≤ 60) ∧ (∀ v ∈ left, 0 ≤ v ∧ v < L) ∧
    T = S.set n q ++ [.lst (hs.map .int), .lst (left.map .int)] ∧ ds = [some (.loc n), some (.int most), some (.int times), some (.loc (S.length + 1)), z4, some (.int L), some (.loc S.length), z7, z8]
  have loop : ∃ ds' S', forL (gN 4) (sSeq (sSet 7 (eOp opMod (eOp opSub (eMt isLst opPop (eVar 3) (aCons (eFn F_law_draw (aCons (eVar 0) (aCons (eCall opLen (aCons (eVar 3) aNil)) aNil))) aNil)) (eVar 4)) (eVar 5)))
      (sSeq (sSet 8 (eOp opAdd (eVar 7) (eOp opMul (eVar 5) (eFn F_law_draw (aCons (eVar 0) (aCons (eOp opAdd (eVar 2) (eC (.int 1))) aNil))))))
      (sExpr (eMt isLst opAppend (eVar 6) (aCons (eIf (tVal (eOp opLt (eVar 8) (eC (.int 61)))) (eVar 8) (eVar 7)) aNil))))) (rangeD 0 L.toNat)
      [some (.loc n), some (.int most), some (.int times), some (.loc (S.length + 1)), none, some (.int L), some (.loc S.length), none, none] (S.set n y ++ [.lst [], .lst (rangeD 0 L.toNat)]) = .nx ds' S' ∧ P L.toNat ds' S' := by
    refine for_range P L.toNat ⟨none, none, none, none, y, [], (List.range L.toNat).map fun i : Nat => 0 + (i : Int), py, rfl, by simp, fun _ q => (nomatch q), fun v hv => ?_, by rw [rangeD_ints]; rfl, rfl⟩ ?_
    · obtain ⟨i, hi, rfl⟩ := List.mem_map.mp hv
      have := List.mem_range.mp hi
      omega
    · rintro i hi ds T ⟨_, z4, z7, z8, q, hs, left, pq, l1, l2, hb1, hb2, rfl, rfl⟩
      have hl : 0 < left.length := by omega
      obtain ⟨k, q2, k0, k1, pq2, e2⟩ := draw (u := left.length) (pen_at (J := [.lst (hs.map .int), .lst (left.map .int)]) hn) pq (by omega) (by omega)
      rw [pen_set hn] at e2
      have hk : k.toNat < left.length := by omega
      obtain ⟨v, hv⟩ : ∃ v, v = left[k.toNat] := ⟨_, rfl⟩
      have v0 := hb2 v (hv ▸ List.getElem_mem hk)
      obtain ⟨hold, hh⟩ : ∃ x, x = (v - (i : Int)) % L := ⟨_, rfl⟩
      have h0 : 0 ≤ hold := by rw [hh]; exact Int.emod_nonneg _ (by omega)
      have h1 : hold < L := by rw [hh]; exact Int.emod_lt_of_pos _ (by omega)
      obtain ⟨k2, q3, k20, k21, pq3, e3⟩ := draw (u := times + 1) (pen_at (J := [.lst (hs.map .int), .lst ((left.map D.int).eraseIdx k.toNat)]) hn) pq2 (by omega) (by omega)
      rw [pen_set hn] at e3
      have sk : seqIndex? k left.length = some k.toNat := seqIndex_in k0 k1
      have gk : left[k.toNat]? = some v := by rw [hv]; exact List.getElem?_eq_getElem hk
      have rk : -9223372036854775808 ≤ k := by omega
      have rk2 : k < 9223372036854775808 := by omega
      have m2 : mulOk L k2 = true := mulOk_l (by omega) (by omega)
      have hlen : hs.length < sizeLine := by rw [sizeLine_eq]; omega
      obtain ⟨w, hw⟩ : ∃ w, w = if hold + L * k2 < 61 then hold + L * k2 else hold := ⟨_, rfl⟩
      have w0 : 0 ≤ w ∧ w ≤ 60 := by
        rw [hw]
        have : 0 ≤ L * k2 := Int.mul_nonneg (by omega) k20
        split <;> omega
      refine ⟨_, _, _, rfl, ?_, ⟨none, some (.int i), some (.int hold), some (.int (hold + L * k2)), q3, hs ++ [w], left.eraseIdx k.toNat, pq3, by simp [l1], ?_, ?_, fun u hu => hb2 u (List.mem_of_mem_eraseIdx hu), rfl, rfl⟩⟩
      · have er : (left.map D.int).eraseIdx k.toNat = (left.eraseIdx k.toNat).map D.int := map_erase
        by_cases hc : hold + L * k2 < 61
        · have ew : w = hold + L * k2 := by rw [hw, if_pos hc]
          simp [e2, sk, gk, rk, rk2, op_mod_ok, show 0 < L by omega, ← hh, e3, op_mul_ok, m2, hc, hlen, ew, er]
          rw [← er, e3]
          simp [op_mul_ok, m2, hc, hlen]
        · have ew : w = hold := by rw [hw, if_neg hc]
          simp [e2, sk, gk, rk, rk2, op_mod_ok, show 0 < L by omega, ← hh, e3, op_mul_ok, m2, hc, hlen, ew, er]
          rw [← er, e3]
          simp [op_mul_ok, m2, hc, hlen]
      · rw [List.length_eraseIdx_of_lt hk]; omega
      · intro u hu
        rcases List.mem_append.mp hu with hu | hu
        · exact hb1 u hu
        · rw [List.mem_singleton.mp hu]; exact w0
  obtain ⟨ds', S', e, _, z4, z7, z8, q, hs, left, pq, l1, l2, hb1, hb2, rfl, rfl⟩ := loop
  refine ⟨hs, q, ⟨by omega, by omega, hb1⟩, pq, cut_ok (J := [.lst (hs.map .int), .lst (left.map .int)]) ?_ (by rw [List.length_set]) (bd_flat _ (by simp [flatL_ints])) fun e he => ?_⟩
  · unfold F_law_table runD b_law_table
    have ro : rngOk L = true := rngOk_of (by omega) (by omega)
    have rg : rgOkD 0 L = true := by unfold rgOkD; rw [ro, rngOk_of (by omega) (by omega), Int.sub_zero, decide_eq_true (show L.toNat ≤ 2 ^ 24 by omega)]; rfl
    simp [e1, ev_for, ← hL, rg, rng1_int ro, line_big, e]
  · rcases List.mem_or_eq_of_mem_set he with q' | q'
    · exact hb e q'
    · rw [q']; exact bd_flat _ pq.flat
end C
end Dl

set_option Elab.async false
set_option linter.all false
set_option maxRecDepth 100000
set_option maxHeartbeats 4000000
/-! Dl18: comprehensions and more operations, evaluated. -/
namespace Dl
open PySem PySem.Spec PyProof.Rows L2

section
variable (ds : DS) (S : List D)
@[simp] theorem compW_wkL (g : GD) (tt : FT) (fe : FE) (xs acc : List D) (n : Nat) (h : n = xs.length) : compW g tt fe ds (wkL xs) n 0 acc S = compL g tt fe ds xs acc S := by
  rw [h, compW_list xs.length 0 acc S (by omega), List.drop_zero]
@[simp] theorem setW_wkL (g : GD) (tt : FT) (fe : FE) (xs : List D) (acc : List Int) (n : Nat) (h : n = xs.length) : setW g tt fe ds (wkL xs) n 0 acc S = setL g tt fe ds xs acc S := by
  rw [h, setW_list xs.length 0 acc S (by omega), List.drop_zero]
@[simp] theorem ev_comp (fi : FI) (g : GD) (tt : FT) (fe : FE) (vs : List Nat) : eComp fi g tt fe vs ds S = (fi ds S).bind fun k S1 => (compW g tt fe (wipeD ds vs) k k.n 0 [] S1).bind fun ys S2 => .ok (.lst ys) S2 := rfl
@[simp] theorem ev_setc (new : Bool) (fi : FI) (g : GD) (tt : FT) (fe : FE) (vs : List Nat) : eSetC new fi g tt fe vs ds S = (fi ds S).bind fun k S1 => (setW g tt fe (wipeD ds vs) k k.n 0 [] S1).bind fun ys S2 => if new = true then .ok (.loc S2.length) (S2 ++ [.set ys]) else .ok (.set ys) S2 := rfl
@[simp] theorem ev_lock (i : Nat) (f : FE) : eLock i f ds S = match ds[i]? with
  | some (some (.loc n)) => (match S[n]? with
    | some (.dic ks es) => (match f ds (S.set n (.lkd ks es)) with
      | .ok d S' => (match S'[n]? with
        | some (.lkd ks' es') => .ok d (S'.set n (.dic ks' es'))
        | _ => .stuck)
      | _ => .stuck)
    | _ => .stuck)
  | _ => .stuck := rfl
@[simp] theorem isi_int (f : Tk → Bool) (i : Int) : opIsi f (.int i) S = .ok (.bl (f .int)) S := rfl
@[simp] theorem isi_tup (f : Tk → Bool) (xs : List D) : opIsi f (.tup xs) S = .ok (.bl (f .tup)) S := rfl
@[simp] theorem all_lst (bs : List Bool) : opAllL [.lst (bs.map .bl)] S = .ok (.bl (bs.all id)) S := by
  unfold opAllL opBlsL lstR lstOf
  dsimp only
  rw [blsOf_map]
@[simp] theorem min_lst (ns : List Int) : opMinL [.lst (ns.map .int)] S = match minF ns with
  | some m => .ok (.int m) S
  | none => .stuck := by
  unfold opMinL opIntsL lstR lstOf
  dsimp only
  rw [intsOf_map]
  all_goals rfl
@[simp] theorem items_loc (n : Nat) : itemsW (.loc n) S = match S[n]? with
  | some (.lkd ks ds) => some (wkL (itemsD ks ds))
  | _ => none := rfl
@[simp] theorem enumW_lst (xs : List D) : enumW (.lst xs) S = some (wkL (enumD 0 xs)) := rfl
@[simp] theorem enumW_loc (n : Nat) : enumW (.loc n) S = match S[n]? with
  | some (.lst xs) => some (wkE n xs.length)
  | _ => none := rfl
@[simp] theorem seqW_lst (xs : List D) : seqW (.lst xs) S = some (wkL xs) := rfl
@[simp] theorem isInt_i : isInt .int = true := rfl
@[simp] theorem isBool_i : isBool .int = false := rfl
@[simp] theorem isTup_t : isTup .tup = true := rfl
end

section
variable (S : List D) (n : Nat) (x : D)
/-- is x in what stands at a place -/
def inAt (x : D) : Option D → Option Bool
  | some (.dic ks ds) => (keyOf x).map fun k => (valD ks ds k).isSome
  | some (.lst xs) => if (flatD x && xs.all flatD) = true then some (inD x xs) else none
  | some (.set xs) => (match x with
    | .int k => some (decide (k ∈ xs))
    | _ => none)
  | _ => none
theorem inS_loc : inS x (.loc n) S = inAt x S[n]? := by
  unfold inS dicOf seqOf
  dsimp only
  cases S[n]? with
  | none => rfl
  | some d => cases d <;> rfl
@[simp] theorem in_loc : opIn x (.loc n) S = match inAt x S[n]? with
  | some b => .ok (.bl b) S
  | none => .stuck := by unfold opIn; rw [inS_loc]; all_goals rfl
@[simp] theorem notin_loc : opNotIn x (.loc n) S = match inAt x S[n]? with
  | some b => .ok (.bl (!b)) S
  | none => .stuck := by unfold opNotIn; rw [inS_loc]; all_goals rfl
@[simp] theorem inAt_dic (ks : List Key) (ds : List D) : inAt x (some (.dic ks ds)) = (keyOf x).map fun k => (valD ks ds k).isSome := rfl
@[simp] theorem inAt_set (k : Int) (xs : List Int) : inAt (.int k) (some (.set xs)) = some (decide (k ∈ xs)) := rfl
@[simp] theorem inAt_lst (xs : List D) : inAt x (some (.lst xs)) = if (flatD x && xs.all flatD) = true then some (inD x xs) else none := rfl
@[simp] theorem keyOf_int (i : Int) : keyOf (.int i) = some (.inl i) := rfl
@[simp] theorem keyOf_str (i : Str) : keyOf (.str i) = some (.inr i) := rfl
@[simp] theorem ix_dic_ (ks : List Key) (ds : List D) : opIx (.dic ks ds) x S = match keyOf x with
  | some k => (match valD ks ds k with
    | some d => .ok d S
    | none => .stuck)
  | none => .stuck := rfl
end
theorem inD_ints (k : Int) (xs : List Int) : inD (.int k) (xs.map .int) = decide (k ∈ xs) := by
  unfold inD
  induction xs with
  | nil => rfl
  | cons y ys ih =>
    rw [List.map_cons, List.any_cons, ih]
    show ((y == k) || _) = _
    by_cases h : k = y
    · subst h; simp
    · have h2 : (y == k) = false := by rw [beq_eq_false_iff_ne]; exact fun q => h q.symm
      rw [h2, Bool.false_or]
      simp [h]
theorem flat_ints (xs : List Int) : (xs.map D.int).all flatD = true := by
  rw [List.all_map]
  exact List.all_eq_true.mpr fun _ _ => rfl
end Dl

set_option Elab.async false
set_option linter.all false
set_option maxRecDepth 100000
set_option maxHeartbeats 4000000
/-! Dl19: a def that is given no places: its answer from the empty store. -/
namespace Dl
open PySem PySem.Spec PyProof.Rows L2

section
variable {E : En} {r1 r2 : Reg} {H : Hp}
mutual
theorem Rep.outs (k : ∀ a, r1.out a → r2.out a) : ∀ {d : D} {v : V}, Rep E r1 H d v → Dl.bd 0 d = true → Rep E r2 H d v
  | .non, _, h, _ => rep_non.mpr (rep_non.mp h)
  | .bl _, _, h, _ => rep_bl.mpr (rep_bl.mp h)
  | .int _, _, h, _ => rep_int.mpr (rep_int.mp h)
  | .str _, _, h, _ => rep_str.mpr (rep_str.mp h)
  | .scr _, _, h, _ => by obtain ⟨a, e, t⟩ := rep_scr.mp h; exact rep_scr.mpr ⟨a, e, t.elim (fun t => .inl ⟨k _ t.1, t.2⟩) .inr⟩
  | .set _, _, h, _ => by obtain ⟨a, e, q, t⟩ := rep_set.mp h; exact rep_set.mpr ⟨a, e, k _ q, t⟩
  | .tup ds, _, h, b => by
    obtain ⟨a, vs, e, t, l⟩ := rep_tup.mp h
    unfold Dl.bd at b
    exact rep_tup.mpr ⟨a, vs, e, t.elim (fun t => .inl ⟨k _ t.1, t.2⟩) .inr, RepL.outs k l b⟩
  | .lst ds, _, h, b => by
    obtain ⟨a, vs, e, t, l⟩ := rep_lst.mp h
    unfold Dl.bd at b
    exact rep_lst.mpr ⟨a, vs, e, ⟨k _ t.1, t.2⟩, RepL.outs k l b⟩
  | .dic ks ds, _, h, b => by
    obtain ⟨a, vs, e, t, q, kk, l⟩ := rep_dic.mp h
    unfold Dl.bd at b
    exact rep_dic.mpr ⟨a, vs, e, k _ t, q, kk, RepL.outs k l b⟩
  | .obj c ns ds, _, h, b => by
    obtain ⟨a, dx, vs, e, t, q, kk, l⟩ := rep_obj.mp h
    unfold Dl.bd at b
    exact rep_obj.mpr ⟨a, dx, vs, e, k _ t, q, kk, RepL.outs k l b⟩
  | .loc m, _, h, b => by
    unfold Dl.bd at b
    exact absurd (of_decide_eq_true b) (Nat.not_lt_zero _)
  | .lkd _ _, _, h, _ => (rep_lkd h).elim
theorem RepL.outs (k : ∀ a, r1.out a → r2.out a) : ∀ {ds : List D} {vs : List V}, RepL E r1 H ds vs → bdL 0 ds = true → RepL E r2 H ds vs
  | [], _, h, _ => repL_nil.mpr (repL_nil.mp h)
  | d :: ds, _, h, b => by
    obtain ⟨v, ws, e, h1, h2⟩ := repL_cons.mp h
    unfold bdL at b
    rw [Bool.and_eq_true] at b
    exact repL_cons.mpr ⟨v, ws, e, Rep.outs k h1 b.1, RepL.outs k h2 b.2⟩
end
end
/-! ### frozen, as a function -/
def mapO (f : D → Option D) : List D → Option (List D)
  | [] => some []
  | d :: ds => match f d, mapO f ds with
    | some e, some es => some (e :: es)
    | _, _ => none
def fzD (J : List D) : Nat → D → Option D
  | 0, d => if bd 0 d = true then some d else none
  | k + 1, d => if bd 0 d = true then some d else match d with
    | .tup ds => (mapO (fzD J k) ds).map .tup
    | .lst ds => (mapO (fzD J k) ds).map .lst
    | .loc m => (match J[m]? with
      | some (.lst ds) => (mapO (fzD J k) ds).map .lst
      | some (.dic ks ds) => (mapO (fzD J k) ds).map (.dic ks)
      | some (.set xs) => some (.set xs)
      | _ => none)
    | _ => none
abbrev fzDL (J : List D) (k : Nat) (ds : List D) : Option (List D) := mapO (fzD J k) ds
theorem mapO_ok {J : List D} {f : D → Option D} (h : ∀ d e, f d = some e → Fz 0 J d e) : ∀ {ds es : List D}, mapO f ds = some es → FzL 0 J ds es
  | [], es, q => by
    unfold mapO at q
    cases q; exact .nil
  | d :: ds, es, q => by
    unfold mapO at q
    split at q
    · cases q
      rename_i h1 h2
      exact .cons (h _ _ h1) (mapO_ok h h2)
    · cases q
theorem fzD_ok {J : List D} : ∀ (k : Nat) {d e : D}, fzD J k d = some e → Fz 0 J d e
  | 0, d, e, h => by
    unfold fzD at h
    split at h
    · cases h; exact .same (by assumption)
    · cases h
  | k + 1, d, e, h => by
    unfold fzD at h
    split at h
    · cases h; exact .same (by assumption)
    · cases d with
      | tup ds =>
        dsimp only at h
        obtain ⟨es, h1, rfl⟩ := Option.map_eq_some_iff.mp h
        exact .tup (mapO_ok (fun _ _ q => fzD_ok k q) h1)
      | lst ds =>
        dsimp only at h
        obtain ⟨es, h1, rfl⟩ := Option.map_eq_some_iff.mp h
        exact .lst (mapO_ok (fun _ _ q => fzD_ok k q) h1)
      | loc m =>
        dsimp only at h
        split at h
        · rename_i ds hj
          obtain ⟨es, h1, rfl⟩ := Option.map_eq_some_iff.mp h
          exact .loc (Nat.zero_le _) hj (mapO_ok (fun _ _ q => fzD_ok k q) h1)
        · rename_i ks ds hj
          obtain ⟨es, h1, rfl⟩ := Option.map_eq_some_iff.mp h
          exact .dic (Nat.zero_le _) hj (mapO_ok (fun _ _ q => fzD_ok k q) h1)
        · rename_i xs hj
          cases h
          exact .set (Nat.zero_le _) hj
        · cases h
      | _ => cases h
theorem fzDL_ok {J : List D} (k : Nat) {ds es : List D} (h : fzDL J k ds = some es) : FzL 0 J ds es := mapO_ok (fun _ _ q => fzD_ok k q) h
/-- a def that is given no places, from the empty store -/
def pureF (F : FD) : FD := fun args S => if bdL 0 args = true then (match F args [] with
  | .ok d J => (match fzD J 6 d with
    | some e => .ok e S
    | none => .stuck)
  | .exc c ns fs J => (match fzDL J 6 fs with
    | some es => .exc c ns es S
    | none => .stuck)
  | .stuck => .stuck) else .stuck
section
variable {E : En} {r : Reg} {H : Hp} {S : List D}
/-- all places hidden -/
abbrev Reg.hid (r : Reg) : Reg := ⟨[], r.l ++ r.z⟩
theorem hid_out {a : Addr} : r.hid.out a ↔ r.out a := by
  unfold Reg.out
  simp only [List.not_mem_nil, not_false_eq_true, true_and, List.mem_append, not_or]
theorem SOk.hid (o : SOk E r H S) : SOk E r.hid H [] := by
  refine ⟨rfl, List.nodup_nil, fun n a d h _ => by simp at h, o.tb, fun a ha => ?_, fun a _ h => (nomatch h), fun a ha q e => ?_⟩
  · rcases List.mem_append.mp ha with h | h
    · obtain ⟨u, e, n⟩ := o.there h
      rw [e]
      exact ⟨fun q => (nomatch q), fun ps q => n ps (Option.some.inj q)⟩
    · exact o.zal a h
  · rcases List.mem_append.mp ha with h | h
    · obtain ⟨d, c⟩ := o.cont h
      exact c.ncode e
    · exact o.zc a h q e
/-- the region behind: the old places, what is hidden besides them -/
abbrev Reg.back (r r' : Reg) : Reg := ⟨r.l, r'.z.filter fun a => decide (a ∉ r.l)⟩
theorem back_step {r' : Reg} {H' : Hp} (o : SOk E r H S) (st : Step r.hid H r' H') : Step r H (r.back r') H' := by
  refine ⟨⟨[], by simp, fun _ h => (nomatch h)⟩, fun a u h _ ht => st.kp a u h (fun q => (nomatch q)) ht, st.th, fun a h => ?_, fun a h => ?_, st.fz⟩
  · exact List.mem_filter.mpr ⟨st.z1 a (List.mem_append_right _ h), decide_eq_true (o.zl a h)⟩
  · obtain ⟨h1, h2⟩ := List.mem_filter.mp h
    rcases st.z2 a h1 with q | q
    · rcases List.mem_append.mp q with q | q
      · exact absurd q (of_decide_eq_true h2)
      · exact .inl q
    · exact .inr q
theorem back_ok {r' : Reg} {H' : Hp} {J : List D} (o : SOk E r H S) (st : Step r.hid H r' H') (o' : SOk E r' H' J) : SOk E (r.back r') H' S := by
  have sb := back_step o st
  refine ⟨o.len, o.nd, fun n a d h1 h2 => ?_, o'.tb, fun a h => o'.zal a (List.mem_filter.mp h).1, fun a h => of_decide_eq_true (List.mem_filter.mp h).2, fun a h => o'.zc a (List.mem_filter.mp h).1⟩
  have c := o.at_ n a d h1 h2
  refine c.mono sb ?_
  obtain ⟨u, e, nt⟩ := c.some
  rw [st.kp a u e (fun q => (nomatch q)) nt, e]
theorem back_out {r' : Reg} {H' : Hp} (st : Step r.hid H r' H') {a : Addr} (h : (r'.cut 0).out a) : (r.back r').out a :=
  ⟨fun q => h.2 (st.z1 a (List.mem_append_left _ q)), fun q => h.2 (List.mem_filter.mp q).1⟩
mutual
theorem Fz.bd0 {J : List D} : ∀ {d e : D}, Fz 0 J d e → bd 0 e = true
  | _, _, .same h => h
  | _, _, .tup h => by unfold bd; exact FzL.bd0 h
  | _, _, .lst h => by unfold bd; exact FzL.bd0 h
  | _, _, .loc _ _ h => by unfold bd; exact FzL.bd0 h
  | _, _, .dic _ _ h => by unfold bd; exact FzL.bd0 h
  | _, _, .set _ _ => by unfold bd; rfl
theorem FzL.bd0 {J : List D} : ∀ {ds es : List D}, FzL 0 J ds es → bdL 0 es = true
  | _, _, .nil => by unfold bdL; rfl
  | _, _, .cons h t => by unfold bdL; rw [Fz.bd0 h, FzL.bd0 t]; rfl
end
theorem spD_pure {n : Nat} {F : FD} (vs : List V) (Q : VK) (Ex : XK) (q : spD E n (pureF F) vs H Q Ex) : spD E n F vs H Q Ex := by
  obtain ⟨r, args, S, hl, rl, o, s⟩ := q
  unfold pureF at s
  split at s
  · rename_i hb
    refine ⟨r.hid, args, [], hl, rl.outs (fun a h => hid_out.mpr h) hb, o.hid, ?_⟩
    cases hF : F args [] with
    | stuck => rw [hF] at s; exact s.elim
    | ok d J =>
      rw [hF] at s
      dsimp only at s
      cases hz : fzD J 6 d with
      | none => rw [hz] at s; exact s.elim
      | some e =>
        rw [hz] at s
        intro v H' r' st o' rp
        have fz := fzD_ok 6 hz
        have re := Fz.rep (S := []) (J := J) o' fz rp
        exact s v H' (r.back r') (back_step o st) (back_ok o st o') (re.outs (fun a h => back_out st h) fz.bd0)
    | exc c ns fs J =>
      rw [hF] at s
      dsimp only at s
      cases hz : fzDL J 6 fs with
      | none => rw [hz] at s; exact s.elim
      | some es =>
        rw [hz] at s
        intro dx H' r' st o' x
        have fz := fzDL_ok 6 hz
        refine s dx H' (r.back r') (back_step o st) (back_ok o st o') ?_
        rcases x with ⟨e1, e2, e3⟩ | ⟨d, ps, e1, e2, e3, e4, l⟩
        · subst e2
          cases fz
          exact .inl ⟨e1, rfl, e3⟩
        · refine .inr ⟨d, ps, e1, back_out st (Reg.out_cut e2), e3, e4, ?_⟩
          exact (FzL.rep (S := []) (J := J) o' fz l).outs (fun a h => back_out st h) fz.bd0
  · exact s.elim
theorem DefOk.pure {P : Program} {w : World} {K : PySem.W.Frag} {mg : Str → Option Value} {base : Heap} {ps : List Str} {F : FD} {x : Str} {k : Nat} (D : DefOk P w K mg base E x ps k F) : DefOk P w K mg base E x ps k (pureF F) := by
  obtain ⟨f, fd, G, a, b, c⟩ := D.ex
  exact ⟨f, fd, G.imp fun vs H Q Ex q => spD_pure vs Q Ex q, a, b, c⟩
end
end Dl

set_option Elab.async false
set_option linter.all false
set_option maxRecDepth 100000
set_option maxHeartbeats 4000000
/-! Dl20: enumerate, max, min, sum of a tuple; x op= e at a name. -/
namespace Dl
open PySem PySem.Spec PyProof.Rows L2

/-! ### enumerate(t), one argument, anything that begins an iterator -/
theorem meets_enum1 {v : Value} {o : Obj} {H : Heap → Prop} (B : Begins v o H) :
    Meets (Builtin.«enumerate.__new__» ⟨[.type "enumerate", v], []⟩) (fun _ R s => H s.heap ∧
      R (.ok (.ret (.ref (s.heap.push o).objs.size))) { s with heap := (s.heap.push o).push { cls := .type "enumerate", data := .fields #[.none, .bool false, .ref s.heap.objs.size, rawInt 0, .none, .none] } }) :=
  .of_wp fun prog w A R s h => by
    obtain ⟨hp, g, d, tk, os⟩ := s
    obtain ⟨h1, h⟩ := h
    have hsub := sub_enumerate
    have q1 : ∀ {A' : Around} {E : Value → Shared → Prop} {Q : Value → Shared → Prop}, Q (.ref hp.objs.size) ⟨hp.push o, g, d, tk, os⟩ → wpAny (model prog w) A' (pyIter v) Q E ⟨hp, g, d, tk, os⟩ :=
      fun q => B.iter prog w _ _ ⟨hp, g, d, tk, os⟩ _ h1 q
    wp_walk using q1
    refine wpAny_stack_any fun st => wpAny_pure ?_
    split
    · rename_i c _ _ _ _ _
      cases (c == Value.type "enumerate")
      all_goals
        wp_walk using q1
        exact ⟨_, rfl, h⟩
    · wp_walk using q1
      exact ⟨_, rfl, h⟩
section
variable {prog : Program} {w : World} {A : Around} {E : Value → Shared → Prop} {s : Shared}
theorem call_enum1 {v : Value} {o : Obj} {H : Heap → Prop} {Q : Value → Shared → Prop} (B : Begins v o H) (h1 : H s.heap)
    (h : ∀ h', IsEnum h' (s.heap.objs.size + 1) s.heap.objs.size 0 .none → h'.get? s.heap.objs.size = some o → h'.objs.size = s.heap.objs.size + 2 → (∀ b o, s.heap.get? b = some o → h'.get? b = some o) → Q (.ref (s.heap.objs.size + 1)) { s with heap := h' }) :
    wpAny (model prog w) A (call (.type "enumerate") [v]) Q E s := by
  refine callType_new F.called_enumerate (by decide) (F.typeCall_enumerate_1 _) (F.newCall_enumerate_1 _) (fun obj => F.args_object_init_2 obj _) F.entry_enumerate_new (meets_enum1 B) ⟨h1, ?_⟩
  have hz : (s.heap.push o).objs.size = s.heap.objs.size + 1 := Heap.size_push ..
  show _ ∧ _
  rw [hz]
  have en := Heap.get?_push_size (s.heap.push o) (o := { cls := .type "enumerate", data := .fields #[.none, .bool false, .ref s.heap.objs.size, rawInt 0, .none, .none] }) rfl
  rw [hz] at en
  exact ⟨⟨_, en, rfl⟩, h _ en (Heap.get?_push_of_some _ (Heap.get?_push_size _ B.free)) (by rw [Heap.size_push, hz]) fun b u x => Heap.get?_push_of_some _ (Heap.get?_push_of_some _ x)⟩
end
theorem enum_endT {prog : Program} {w : World} {A : Around} {E : Value → Shared → Prop} {s : Shared} {e it t : Addr} {j : Nat} {items : Array Value} {i : Int} {old : Value} {Q : Option Value → Shared → Prop} (hh : A.handled = none) (he : IsEnum s.heap e it i old) (hit : s.heap.IsTupleIter it t j) (ht : s.heap.IsTuple t items) (hx : items[j]? = none)
    (hQ : ∀ h', Heap.ExtBut it s.heap h' → Q none { s with heap := h' }) : wpAny (model prog w) A (pyNext (.ref e)) Q E s := by
  have ty : s.TypeIs (.ref e) "enumerate" := ⟨_, he, rfl⟩
  unfold pyNext
  refine wpAny_bind (wpAny_attempt (wpAny_callSpecial?_slot (name := Str.ofString "__next__") ty F.slot_enumerate_next (wpAny_call_entry F.slot_enumerate_next ty F.entry_enumerate_next ?_ (F.args_enumerate_next_1 _))))
  show wpAny (model prog w) A.in1 (field (Value.ref e) 2 >>= _) _ _ _
  refine wpAny_bind (wpAny_field he rfl (x := .ref it) rfl (wpAny_bind (wpAny_nextOf_tuple_end hh hit ht hx fun h' x ext hx' => ?_)))
  obtain ⟨o, ho, hc⟩ := hx'
  exact wpAny_bind (wpAny_isInstance (T := "StopIteration") (b := true) ⟨o, ho, hc⟩ isSubtype_stop (wpAny_pure (hQ _ ext)))
/-- the tuple at a, each item in a new pair -/
def ItEt (K : PySem.W.Frag) (a : Addr) : It :=
  ⟨fun i H => ∃ (xs : List V) (x : V), SqT K H a xs ∧ xs[i]? = some x, fun i H v H' => ∃ T x, v = .ref T ∧ H T = none ∧ H' = upd H T (.tup [.int (i : Nat), x]) ∧ ∀ xs, SqT K H a xs → xs[i]? = some x, fun i H => ∃ xs : List V, SqT K H a xs ∧ xs.length ≤ i⟩
theorem turn_enumT {P : Program} {w : World} {K : PySem.W.Frag} {elts : List Expr} {kk : Nat} {tpos : Pos} (a e it : Addr) :
    Turn P w K (.Tuple elts kk tpos) (ItEt K a) [e, it] e (fun i h => (∃ old, IsEnum h e it ((i : Nat) : Int) old) ∧ h.IsTupleIter it a i ∧ e ≠ it ∧ a ≠ it ∧ a ≠ e) where
  mem := by simp
  obj := fun i h ⟨⟨old, he⟩, ⟨o, ho, hc, hd⟩, _⟩ b hb => by
    rcases (show b = e ∨ b = it by simpa using hb) with rfl | rfl
    · exact ⟨_, he, fun v q => nomatch q⟩
    · exact ⟨o, ho, fun v q => by rw [hd] at q; cases q⟩
  keep := fun i h h' ⟨⟨old, he⟩, hi, hne⟩ k => ⟨⟨old, k e (by simp) _ he⟩, hi.at fun o q => k it (by simp) o q, hne⟩
  item := by
    intro X hP hw hK hc i pins s σ H E I hf st hg
    subst hP hw hK
    obtain ⟨⟨old, he⟩, hit, hne, na, nae⟩ := st
    obtain ⟨xs, x, hq, hx⟩ := hg
    obtain ⟨its, rv, p, hz⟩ := I.tuple hq
    obtain ⟨u, hu, ru⟩ := rv.get hx
    have hel : e < s.heap.objs.size := Heap.lt_size he
    have hil : it < s.heap.objs.size := by obtain ⟨_, q, _⟩ := hit; exact Heap.lt_size q
    have pt : s.heap.IsTuple a its.toArray := p
    have hlt : i < its.toArray.size := by
      have := (List.getElem?_eq_some_iff.mp hu).1
      simpa using this
    refine wpAny_pyNext_enum_itemD (Draws.tuple (A := X.A.in1) (I.ok.hd hc) it a na its.toArray) he ⟨hit, pt⟩ hlt hne (by simp; exact ⟨hne, fun q => nae q.symm⟩) fun x' h' tk hx' ho st' hT hsz hk => ?_
    have ex : x' = u := by
      rw [show its.toArray[i]? = some u by simpa using hu] at hx'
      exact (Option.some.inj hx').symm
    subst ex
    refine ⟨_, rfl, wpAny_letOwnedTupleGo_enum (s := { s with heap := h', toks := tk + 1 }) ho fun h'' he' sb => ?_⟩
    have hT2 : h''.get? s.heap.objs.size = some { cls := .type "tuple", data := .seq #[.int i tk, x'] } := (sb.2 _ (Nat.ne_of_gt hel)).trans hT
    have new : ObjOk X.prog X.w (upd H s.heap.objs.size (.tup [.int (i : Nat), x])) h'' s.heap.objs.size (.tup [.int (i : Nat), x]) :=
      ⟨by show 2 ≤ sizeLine; decide, [.int i tk, x'], .cons ⟨_, rfl⟩ (.cons ru .nil), ⟨_, hT2, rfl, _, rfl⟩⟩
    have I1 : Inv X pins σ (upd H s.heap.objs.size (.tup [.int (i : Nat), x])) { s with heap := h'', toks := tk + 1 } :=
      I.turnedNew (ch := [e, it]) (fun b ob hb q => (sb.2 b (fun z => hb (by simp [z]))).trans (hk b ob (fun z => hb (by simp [z])) (fun z => hb (by simp [z])) q)) hf (Nat.le_refl _) new
    refine ⟨.ref s.heap.objs.size, _, I1, rfl, ⟨_, x, rfl, I.hok.fresh (Nat.le_refl _), rfl, fun ys hy => by rw [I.tuple_inj hy hq]; exact hx⟩, ⟨⟨x', ?_⟩, st'.1.at fun o q => (sb.2 it (Ne.symm hne)).trans q, hne, na, nae⟩, fun b hb => ?_⟩
    · rw [show ((i + 1 : Nat) : Int) = (i : Int) + 1 by omega]; exact he'
    · have hb' : b < s.heap.objs.size := by
        rcases (show b = e ∨ b = it by simpa using hb) with rfl | rfl
        · exact hel
        · exact hil
      rw [upd_ne (Nat.ne_of_lt hb')]
      exact (hf b hb).1
  done := by
    intro X hP hw hK hc i pins s σ H E I hf st hg
    subst hP hw hK
    obtain ⟨⟨old, he⟩, hit, hne, na, nae⟩ := st
    obtain ⟨xs, hq, hx⟩ := hg
    obtain ⟨its, rv, p, hz⟩ := I.tuple hq
    obtain ⟨f0, f1, f2, f3, f4, f5⟩ := hf it (by simp)
    have pt : s.heap.IsTuple a its.toArray := p
    have hl := rv.length
    exact enum_endT (I.ok.hd hc) he hit pt (by simp; omega) fun h' eb => ⟨rfl, I.turned (t' := s.toks) (fun b o hb q => eb b o hb q) f0 f1 f3 f4 f5⟩
  self := fun A i s Q E ⟨⟨_, he⟩, _⟩ h => wpAny_pyIter_enum he h
section
variable {E : En} {X : Cx} {W : WX} {pos p tpos : Pos} {e : Expr} {elts : List Expr} {kk : Nat} {f : FE} {te : TE}
def iEnT (K : PySem.W.Frag) (te : TE) : TI := fun σ H R => te σ H fun v H1 => ∃ a xs, v = .ref a ∧ SqT K H1 a xs ∧ R (ItEt K a) H1
theorem pi_enumT (hg : Gl X "enumerate") (hm : X.mg "enumerate" = none) (he : PE X e te) (hs : starEach [e] X.env = [(false, eval e X.env)] := by rfl) (hs2 : starEach [e] X.env = (false, eval e X.env) :: starEach [] X.env := by rfl) : PI X (.Tuple elts kk tpos) (.Call (.Name "enumerate" p) [e] [] pos) (iEnT X.K te) := by
  refine ⟨fun pins s σ H R I h => ?_⟩
  have ha : PA X [e] (tCons te tNil) := pa_cons he pa_nil hs2
  refine Call_ (ld_blt I hg hm boot_enumerate (PyProof.Rows.callWith_type1 (thn (ha.run pos pins s σ H (fun vs H1 => ∃ a xs, vs = [.ref a] ∧ SqT X.K H1 a xs ∧ R (ItEt X.K a) H1) I ?_) fun us s1 ⟨vs, H1, I1, r1, a, xs, ex, hq, q⟩ => ?_) hs rfl))
  · show te σ H fun x H1 => ∃ a xs, [x] = [.ref a] ∧ SqT X.K H1 a xs ∧ R (ItEt X.K a) H1
    have e : (fun (x : V) (H1 : Hp) => ∃ a xs, [x] = [V.ref a] ∧ SqT X.K H1 a xs ∧ R (ItEt X.K a) H1) = fun x H1 => ∃ a xs, x = .ref a ∧ SqT X.K H1 a xs ∧ R (ItEt X.K a) H1 := by
      funext x H1
      simp
    rw [e]
    exact h
  · subst ex
    cases r1 with
    | cons r rr =>
      cases rr
      cases r
      obtain ⟨its, rv, pt, hz⟩ := I1.tuple hq
      have ha' : a < s1.heap.objs.size := by obtain ⟨_, q, _⟩ := pt; exact Heap.lt_size q
      refine call_enum1 (begins_tuple a its.toArray) (show s1.heap.IsTuple a its.toArray from pt) fun h' en hit hsz hk => wpAny_pyIter_enum en ?_
      have I2 : Inv X pins σ H1 { s1 with heap := h' } := I1.kept (t' := s1.toks) hk
      refine ⟨s1.heap.objs.size + 1, [s1.heap.objs.size + 1, s1.heap.objs.size], _, _, H1, rfl, I2, turn_enumT a (s1.heap.objs.size + 1) s1.heap.objs.size, ⟨⟨.none, en⟩, ⟨_, hit, rfl, rfl⟩, Nat.succ_ne_self _, Nat.ne_of_lt ha', Nat.ne_of_lt (Nat.lt_succ_of_lt ha')⟩, fun b hb => ?_, q⟩
      have hle : s1.heap.objs.size ≤ b := by
        rcases (show b = s1.heap.objs.size + 1 ∨ b = s1.heap.objs.size by simpa using hb) with z | z
        · rw [z]; exact Nat.le_add_right _ _
        · rw [z]; exact Nat.le_refl _
      exact I1.fpOk hle (I1.hok.fresh hle)
def enumT (d : D) (_ : List D) : Option Wk := match d with
  | .tup xs => some (wkL (enumD 0 xs))
  | _ => none
theorem it_enumT {E : En} {r : Reg} {H : Hp} {a : Addr} {vs : List V} {ds : List D} (t : TupAt E r H a vs) (l : RepL E r H ds vs) : ItOk E (ItEt E.K a) r H (wkL (enumD 0 ds)) := fun i r1 H1 S1 st o =>
  ⟨fun e _ => ⟨vs, (t.mono st).sq, by rw [e]; show vs.length ≤ (enumD 0 ds).length; rw [enumD_length, l.length]; exact Nat.le_refl _⟩, fun d _ hd => by
    replace hd : (enumD 0 ds)[i]? = some d := hd
    rw [enumD_get, Nat.zero_add] at hd
    cases hx : ds[i]? with
    | none => rw [hx] at hd; cases hd
    | some d' =>
      rw [hx] at hd; cases hd
      obtain ⟨v, hv, rp⟩ := l.get hx
      refine ⟨⟨vs, v, (t.mono st).sq, hv⟩, fun y H2 ⟨T, x, e1, e2, e3, k⟩ => ?_⟩
      subst e1 e3
      have := k vs (t.mono st).sq
      rw [hv] at this; cases this
      exact pair_new o (rp.mono st) e2⟩
theorem di_enumT (hK : E.K = X.K) (hg : Gl X "enumerate") (hm : X.mg "enumerate" = none) (he : DE E X W e f) (hs : starEach [e] X.env = [(false, eval e X.env)] := by rfl) (hs2 : starEach [e] X.env = (false, eval e X.env) :: starEach [] X.env := by rfl) :
    DI E X W (.Tuple elts kk tpos) (.Call (.Name "enumerate" p) [e] [] pos) (iWalk enumT f) :=
  (pi_enumT hg hm he hs hs2).imp fun σ H R' h => by
    refine tDI_walk h fun r S d v H1 k o rp e hk => ?_
    rw [← hK]
    unfold enumT at e
    split at e
    · cases e
      obtain ⟨a, us, rfl, t, l⟩ := rep_tup.mp rp
      exact ⟨a, us, rfl, t.sq, hk _ (it_enumT t l)⟩
    · cases e
end
end Dl

set_option Elab.async false
set_option linter.all false
set_option maxRecDepth 100000
set_option maxHeartbeats 4000000
/-! Dl21: max, min, sum of a tuple; x op= e. -/
namespace Dl
open PySem PySem.Spec PyProof.Rows L2

theorem ints_at : ∀ {its : List Value} {ns : List Int}, IntsAre its ns → ∀ (i : Nat) (v : Value), its[i]? = some v → ∃ t, v = .int (ns.getD i 0) t
  | _, _, .nil, i, v, h => by simp at h
  | _, _, .cons n t k, 0, v, h => by
    simp at h
    subst h
    exact ⟨t, rfl⟩
  | _, _, .cons n t k, i + 1, v, h => by
    simp at h
    obtain ⟨u, e⟩ := ints_at k i v h
    exact ⟨u, by simpa using e⟩
theorem ints_len : ∀ {its : List Value} {ns : List Int}, IntsAre its ns → its.length = ns.length
  | _, _, .nil => rfl
  | _, _, .cons n t k => by simp [ints_len k]
theorem pre_sum (ns : List Int) : ∀ j, preSum (fun i => ns.getD i 0) j = (ns.take j).sum
  | 0 => by simp [preSum]
  | j + 1 => by
    rw [preSum, pre_sum ns j]
    by_cases h : j < ns.length
    · rw [PySem.sum_take_succ, List.getD_eq_getElem?_getD]
    · rw [List.take_of_length_le (by omega), List.take_of_length_le (by omega), List.getD_eq_getElem?_getD, List.getElem?_eq_none (by omega)]
      simp
section
variable {prog : Program} {w : World} {A : Around} {E : Value → Shared → Prop} {s : Shared} {l : Addr} {its : List Value} {ns : List Int} {Q : Value → Shared → Prop}
theorem walkT_begin (hh : A.handled = none) (hl : s.heap.IsTuple l its.toArray) (hi : IntsAre its ns) :
    let s2 : Shared := { s with heap := s.heap.push { cls := .type "tuple_iterator", data := .fields #[.ref l, .int 0 0] } }
    Walks prog w A.in1 s.heap.objs.size [s.heap.objs.size, l] [s.heap.objs.size] its.toArray.size (fun i v => its.toArray[i]? = some v) (fun i h => h.IsTupleIter s.heap.objs.size l i ∧ h.IsTuple l its.toArray) ∧
    (s2.heap.IsTupleIter s.heap.objs.size l 0 ∧ s2.heap.IsTuple l its.toArray) ∧ (∀ b ∈ [s.heap.objs.size, l], b < s2.heap.objs.size) ∧ (∀ (i : Nat) (v : Value), its.toArray[i]? = some v → ∃ t, v = Value.int (ns.getD i 0) t) ∧
    (∀ h' : Heap, (∀ b o, b ∉ [s.heap.objs.size] → s2.heap.get? b = some o → h'.get? b = some o) → ∀ b o, s.heap.get? b = some o → h'.get? b = some o) := by
  intro s2
  have hlt : l < s.heap.objs.size := by obtain ⟨_, e, _⟩ := hl; exact Heap.lt_size e
  refine ⟨Walks.tuple (A := A.in1) hh _ l (Nat.ne_of_lt hlt) its.toArray, ⟨⟨_, Heap.get?_push_size _ rfl, rfl, rfl⟩, hl.push _⟩, fun b hb => ?_, fun i v h => ints_at hi i v (by simpa using h), fun h' hk b o e => hk b o (fun z => ?_) (Heap.get?_push_of_some _ e)⟩
  · show b < (s.heap.push _).objs.size
    rw [Heap.size_push]
    rcases List.mem_cons.mp hb with z | z
    · rw [z]; exact Nat.lt_succ_self _
    · rw [List.mem_singleton.mp z]; exact Nat.lt_succ_of_lt hlt
  · rw [List.mem_singleton.mp z] at e
    exact absurd (Heap.lt_size e) (Nat.lt_irrefl _)
theorem sum_rawT (hh : A.handled = none) (hl : s.heap.IsTuple l its.toArray) (hi : IntsAre its ns)
    (h : ∀ h' tk t', (∀ b o, s.heap.get? b = some o → h'.get? b = some o) → Q (.int ns.sum t') { s with heap := h', toks := tk }) : wpAny (model prog w) A (call (.builtin "sum") [.ref l]) Q E s := by
  obtain ⟨W, st, hf, hP, hk⟩ := walkT_begin (prog := prog) (w := w) hh hl hi
  refine PySem.call_sum_walkG (wpAny_pyIter_tuple hl ⟨_, _, _, _, _, _, fun i => ns.getD i 0, rfl, W, st, hf, hP, fun h' tk t' k => ?_⟩)
  have := h h' tk t' (hk h' k)
  rw [pre_sum, List.take_of_length_le (by rw [← ints_len hi]; simp)]
  exact this
theorem max_rawT (hh : A.handled = none) (hl : s.heap.IsTuple l its.toArray) (hi : IntsAre its ns) (hne : 0 < ns.length)
    (h : ∀ h' tk M t', (∀ b o, s.heap.get? b = some o → h'.get? b = some o) → M ∈ ns → (∀ a, a ∈ ns → a ≤ M) → Q (.int M t') { s with heap := h', toks := tk }) : wpAny (model prog w) A (call (.builtin "max") [.ref l]) Q E s := by
  obtain ⟨W, st, hf, hP, hk⟩ := walkT_begin (prog := prog) (w := w) hh hl hi
  have hn := ints_len hi
  refine PySem.call_max_walk (wpAny_pyIter_tuple hl ⟨_, _, _, _, _, _, fun i j => decide (ns.getD i 0 > ns.getD j 0), rfl, W, st, hf, by simp; omega, CmpOf.ints_gt (fun i => ns.getD i 0) hP, fun v h' tk hv k => ?_⟩)
  obtain ⟨t, rfl⟩ := hP _ _ hv
  obtain ⟨h1, h2⟩ := argBest_gt (fun i => ns.getD i 0) (its.toArray.size - 1)
  have hs : its.toArray.size = ns.length := by simp [hn]
  refine h h' tk _ t (hk h' k) (PySem.getD_mem (by omega)) fun a ha => ?_
  obtain ⟨j, hj, e⟩ := List.mem_iff_getElem.mp ha
  have z := h2 j (by omega)
  have e3 : ns.getD j 0 = a := by rw [List.getD_eq_getElem?_getD, List.getElem?_eq_getElem hj, ← e] <;> rfl
  rw [e3] at z
  exact z
theorem min_rawT (hh : A.handled = none) (hl : s.heap.IsTuple l its.toArray) (hi : IntsAre its ns) (hne : 0 < ns.length)
    (h : ∀ h' tk M t', (∀ b o, s.heap.get? b = some o → h'.get? b = some o) → M ∈ ns → (∀ a, a ∈ ns → M ≤ a) → Q (.int M t') { s with heap := h', toks := tk }) : wpAny (model prog w) A (call (.builtin "min") [.ref l]) Q E s := by
  obtain ⟨W, st, hf, hP, hk⟩ := walkT_begin (prog := prog) (w := w) hh hl hi
  have hn := ints_len hi
  refine PySem.call_min_walk (wpAny_pyIter_tuple hl ⟨_, _, _, _, _, _, fun i j => decide (ns.getD i 0 < ns.getD j 0), rfl, W, st, hf, by simp; omega, CmpOf.ints_lt (fun i => ns.getD i 0) hP, fun v h' tk hv k => ?_⟩)
  obtain ⟨t, rfl⟩ := hP _ _ hv
  obtain ⟨h1, h2⟩ := argBest_lt (fun i => ns.getD i 0) (its.toArray.size - 1)
  have hs : its.toArray.size = ns.length := by simp [hn]
  refine h h' tk _ t (hk h' k) (PySem.getD_mem (by omega)) fun a ha => ?_
  obtain ⟨j, hj, e⟩ := List.mem_iff_getElem.mp ha
  have z := h2 j (by omega)
  have e3 : ns.getD j 0 = a := by rw [List.getD_eq_getElem?_getD, List.getElem?_eq_getElem hj, ← e] <;> rfl
  rw [e3] at z
  exact z
end
def rSumT (K : PySem.W.Frag) : List V → Hp → VK → Prop := fun vs H Q => ∃ (a : Addr) (ns : List Int), vs = [V.ref a] ∧ SqT K H a (ns.map V.int) ∧ Q (.int ns.sum) H
def rMaxT (K : PySem.W.Frag) : List V → Hp → VK → Prop := fun vs H Q => ∃ (a : Addr) (ns : List Int), vs = [V.ref a] ∧ SqT K H a (ns.map V.int) ∧ 0 < ns.length ∧ ∀ m, m ∈ ns → (∀ y, y ∈ ns → y ≤ m) → Q (.int m) H
def rMinT (K : PySem.W.Frag) : List V → Hp → VK → Prop := fun vs H Q => ∃ (a : Addr) (ns : List Int), vs = [V.ref a] ∧ SqT K H a (ns.map V.int) ∧ 0 < ns.length ∧ ∀ m, m ∈ ns → (∀ y, y ∈ ns → m ≤ y) → Q (.int m) H
section
variable {X : Cx}
theorem cr_sumT (hc : X.calm = true) : CallR X (.builtin "sum") (rSumT X.K) := by
  intro pins s σ H vs us Q I r h
  obtain ⟨a, ns, rfl, hs, q⟩ := h
  obtain ⟨its, rv, hl, _⟩ := I.tuple hs
  rw [Vals.ref1 r]
  exact sum_rawT (I.ok.hd hc) hl rv.ints fun h' tk t' hk => ⟨.int _, H, I.kept hk, ⟨_, rfl⟩, q⟩
theorem cr_maxT (hc : X.calm = true) : CallR X (.builtin "max") (rMaxT X.K) := by
  intro pins s σ H vs us Q I r h
  obtain ⟨a, ns, rfl, hs, hne, q⟩ := h
  obtain ⟨its, rv, hl, _⟩ := I.tuple hs
  rw [Vals.ref1 r]
  exact max_rawT (I.ok.hd hc) hl rv.ints hne fun h' tk m t' hk h1 h2 => ⟨.int _, H, I.kept hk, ⟨_, rfl⟩, q m h1 h2⟩
theorem cr_minT (hc : X.calm = true) : CallR X (.builtin "min") (rMinT X.K) := by
  intro pins s σ H vs us Q I r h
  obtain ⟨a, ns, rfl, hs, hne, q⟩ := h
  obtain ⟨its, rv, hl, _⟩ := I.tuple hs
  rw [Vals.ref1 r]
  exact min_rawT (I.ok.hd hc) hl rv.ints hne fun h' tk m t' hk h1 h2 => ⟨.int _, H, I.kept hk, ⟨_, rfl⟩, q m h1 h2⟩
def rOr (r1 r2 : List V → Hp → VK → Prop) : List V → Hp → VK → Prop := fun vs H Q => r1 vs H Q ∨ r2 vs H Q
theorem cr_or {f : Value} {r1 r2 : List V → Hp → VK → Prop} (h1 : CallR X f r1) (h2 : CallR X f r2) : CallR X f (rOr r1 r2) := fun pins s σ H vs us Q I r h => h.elim (h1 pins s σ H vs us Q I r) (h2 pins s σ H vs us Q I r)
end
/-- of a tuple, or of a list -/
def opIntsA (f : List Int → Option Int) : OpN := fun ls S => match ls with
  | [.tup ds] => (match intsOf ds with
    | some ns => (match f ns with
      | some m => .ok (.int m) S
      | none => .stuck)
    | none => .stuck)
  | _ => opIntsL f ls S
def opMaxA : OpN := opIntsA maxF
def opMinA : OpN := opIntsA minF
def opSumA : OpN := opIntsA fun ns => some ns.sum
section
variable {E : En}
theorem intsA_ex {r : Reg} {H : Hp} {S : List D} {ds : List D} {vs : List V} {f : List Int → Option Int} {Q : VK} {W : XW} (o : SOk E r H S) (rl : RepL E r H ds vs) (s : Sat E r H (opIntsA f ds S) Q W) :
    (∃ a ns m, vs = [.ref a] ∧ SqT E.K H a (ns.map V.int) ∧ f ns = some m ∧ Q (.int m) H) ∨ (∃ a ns m, vs = [.ref a] ∧ SqL E.K H a (ns.map V.int) ∧ f ns = some m ∧ Q (.int m) H) := by
  unfold opIntsA at s
  split at s
  · split at s
    · split at s
      · rename_i ns hn _ m hm
        obtain ⟨v, ws, rfl, h1, h2⟩ := repL_cons.mp rl
        rw [repL_nil.mp h2]
        obtain ⟨a, us, rfl, t, l⟩ := rep_tup.mp h1
        rw [intsOf_eq hn] at l
        rw [repL_ints.mp l] at t
        exact .inl ⟨a, ns, m, rfl, t.sq, hm, s.here o (rep_int.mpr rfl)⟩
      · exact s.elim
    · exact s.elim
  · exact .inr (intsL_ex o rl s)
theorem max_of {ns : List Int} {m : Int} (hm : maxF ns = some m) : 0 < ns.length ∧ ∀ k, k ∈ ns → (∀ y, y ∈ ns → y ≤ k) → k = m := by
  cases ns with
  | nil => cases hm
  | cons n ns =>
    cases hm
    obtain ⟨h1, h2⟩ := foldl_max ns n
    refine ⟨by simp, fun m h3 h4 => ?_⟩
    have a1 := h1 m h3
    have a2 := h4 _ h2
    omega
theorem min_of {ns : List Int} {m : Int} (hm : minF ns = some m) : 0 < ns.length ∧ ∀ k, k ∈ ns → (∀ y, y ∈ ns → k ≤ y) → k = m := by
  cases ns with
  | nil => cases hm
  | cons n ns =>
    cases hm
    obtain ⟨h1, h2⟩ := foldl_min ns n
    refine ⟨by simp, fun m h3 h4 => ?_⟩
    have a1 := h1 m h3
    have a2 := h4 _ h2
    omega
theorem maxAS : CallS E (rOr (rMaxT E.K) (rMax E.K)) opMaxA := by
  intro r H S ds vs Q W o rl s
  rcases intsA_ex o rl s with ⟨a, ns, m, rfl, t, hm, q⟩ | ⟨a, ns, m, rfl, t, hm, q⟩
  · obtain ⟨h1, h2⟩ := max_of hm
    exact .inl ⟨a, ns, rfl, t, h1, fun k h3 h4 => by rw [h2 k h3 h4]; exact q⟩
  · obtain ⟨h1, h2⟩ := max_of hm
    exact .inr ⟨a, ns, rfl, t, h1, fun k h3 h4 => by rw [h2 k h3 h4]; exact q⟩
theorem minAS : CallS E (rOr (rMinT E.K) (rMin E.K)) opMinA := by
  intro r H S ds vs Q W o rl s
  rcases intsA_ex o rl s with ⟨a, ns, m, rfl, t, hm, q⟩ | ⟨a, ns, m, rfl, t, hm, q⟩
  · obtain ⟨h1, h2⟩ := min_of hm
    exact .inl ⟨a, ns, rfl, t, h1, fun k h3 h4 => by rw [h2 k h3 h4]; exact q⟩
  · obtain ⟨h1, h2⟩ := min_of hm
    exact .inr ⟨a, ns, rfl, t, h1, fun k h3 h4 => by rw [h2 k h3 h4]; exact q⟩
theorem sumAS : CallS E (rOr (rSumT E.K) (rSum E.K)) opSumA := by
  intro r H S ds vs Q W o rl s
  rcases intsA_ex o rl s with ⟨a, ns, m, rfl, t, hm, q⟩ | ⟨a, ns, m, rfl, t, hm, q⟩
  · cases hm
    exact .inl ⟨a, ns, rfl, t, q⟩
  · cases hm
    exact .inr ⟨a, ns, rfl, t, q⟩
end
/-! ### x op= e, ints -/
def augK (i : Nat) (f : Int → Int → Int) (ds : DS) (d : D) (S1 : List D) : RS := match ds[i]?, d with
  | some (some (.int x)), .int y => .nx (ds.set i (some (.int (f x y)))) S1
  | _, _ => .stuck
def sAug (i : Nat) (fe : FE) (f : Int → Int → Int) : FS := fun ds S => match ds[i]? with
  | some (some (.int _)) => (fe ds S).toS ds (augK i f ds)
  | _ => .stuck
section
variable {E : En} {X : Cx} {W : WX} {pos p' : Pos} {e : Expr} {fe : FE}
theorem st_aug {i : Nat} {x : Str} {op : Operator} {f : Int → Int → Int} (hN : X.N.Nodup) (hi : X.N[i]? = some x) (hx : Loc X.env.scope x) (ho : PIp X op (ipI f)) (he : DE E X W e fe)
    (hf : X.fn x = true ∨ X.env.scope.names.lookup x = some .local := by first | exact .inl rfl | exact .inr rfl | assumption) : DSt E X W (.AugAssign (.Name x p') op e pos) (sAug i fe f) :=
  (ps_aug hN hi hx he ho hf).imp fun Dn σ H ⟨r, ds, S, p, o, s⟩ => by
    unfold sAug at s
    split at s
    · rename_i x hx
      obtain ⟨v, hv, rv⟩ := p.at_ _ _ hx
      rw [rep_int.mp rv] at hv
      refine ⟨.int x, hv, ?_⟩
      refine tD_stepS (k := augK i f) ⟨r, ds, S, p, o, s⟩ fun r ds S d v H1 p o rp s1 => ?_
      unfold augK at s1
      split at s1
      · rename_i x' y hx'
        obtain ⟨v', hv', rv'⟩ := p.at_ _ _ hx'
        rw [rep_int.mp rv', hv] at hv'
        cases hv'
        exact ⟨x, y, rfl, rep_int.mp rp, s1.hereN o (p.set i (rep_int.mpr rfl))⟩
      · exact s1.elim
    · exact s.elim
end
end Dl

set_option Elab.async false
set_option linter.all false
set_option maxRecDepth 100000
set_option maxHeartbeats 4000000
namespace G83
open PySem PySem.Spec PyProof.Rows L2 Dl
def top (i : Nat) : Stmt := PySem.Challenge.pw_burstapart_k83_whole_least_delays.main.body.getD i (.Pass ⟨0, 0, 0, 0⟩)
structure Bl (mg : Str → Option Value) : Prop where
  abs : mg "abs" = none
  all : mg "all" = none
  bool_ : mg "bool" = none
  enumerate : mg "enumerate" = none
  int_ : mg "int" = none
  isinstance : mg "isinstance" = none
  len : mg "len" = none
  max : mg "max" = none
  min : mg "min" = none
  range : mg "range" = none
  tuple_ : mg "tuple" = none
  farthest : ∃ t, mg "FARTHEST" = some (.int 500 t)
  greatest_hold : ∃ t, mg "GREATEST_HOLD" = some (.int 60 t)
  longest : ∃ t, mg "LONGEST" = some (.int 24 t)
  most_hold : ∃ t, mg "MOST_HOLD" = some (.int 8 t)
  most_length : ∃ t, mg "MOST_LENGTH" = some (.int 4 t)
  most_searched : ∃ t, mg "MOST_SEARCHED" = some (.int 4 t)
  most_spread : ∃ t, mg "MOST_SPREAD" = some (.int 5 t)
  widest : ∃ t, mg "WIDEST" = some (.int 58 t)

/-! is_integer -/
def b_is_integer : FS := (sRet (eAnd (eThen (opIsi isInt) (eVar 0)) (eNot (eThen (opIsi isBool) (eVar 0)))))
def F_is_integer : FD := runD 0 b_is_integer
theorem sc_is_integer : FnScope ["thing"] ["thing"] (defScope (top 10)) := ⟨rfl, rfl, rfl, by decide +kernel, rfl, by decide +kernel, by decide +kernel⟩
theorem fng_is_integer {P : Program} {w : World} {K : PySem.W.Frag} {mg : Str → Option Value} {base : Heap} {cm : Nat → Addr} {f : Addr} {fd : FuncData} (B : Bl mg) (F : FunD K "is_integer" "is_integer" (defArgs (top 10)) (defBody (top 10)) (defScope (top 10)) [] [] f fd) :
    FnG P w K mg base 1 f fd ["thing"] (spD ⟨K, cm, [], w⟩ 1 F_is_integer) :=
  fnD_of (k := 0) (E := ⟨K, cm, [], w⟩) F sc_is_integer rfl (fun cdv A outer s H Ex W X hX hr hgu tk hp => by
    subst hX
    have nd : (["thing"] : List Str).Nodup := sc_is_integer.nd
    exact (ds_one (st_ret (de_and (de_isi rfl rfl B.isinstance rfl B.int_ boot_int isInt_k (dv 0)) (de_one (de_not (de_isi rfl rfl B.isinstance rfl B.bool_ boot_bool isBool_k (dv 0))))))))
theorem ok_is_integer {P : Program} {w : World} {K : PySem.W.Frag} {mg : Str → Option Value} {base : Heap} {cm : Nat → Addr} {f : Addr} {fd : FuncData} (B : Bl mg) (F : FunD K "is_integer" "is_integer" (defArgs (top 10)) (defBody (top 10)) (defScope (top 10)) [] [] f fd) (gf : mg "is_integer" = some (.ref f)) :
    DefOk P w K mg base ⟨K, cm, [], w⟩ "is_integer" ["thing"] 1 F_is_integer :=
  ⟨f, fd, fng_is_integer B F , gf, F.kp, F.bindsN fun _ _ _ _ _ _ us hl => match us, hl with | [_], _ => rfl⟩
/-! is_between -/
def b_is_between : FS := (sRet (eAnd (eFn (pureF F_is_integer) (aCons (eVar 0) aNil)) (eChain opLe opLe (eVar 1) (eVar 0) (eVar 2))))
def F_is_between : FD := runD 0 b_is_between
theorem sc_is_between : FnScope ["thing", "low", "high"] ["thing", "low", "high"] (defScope (top 11)) := ⟨rfl, rfl, rfl, by decide +kernel, rfl, by decide +kernel, by decide +kernel⟩
theorem fng_is_between {P : Program} {w : World} {K : PySem.W.Frag} {mg : Str → Option Value} {base : Heap} {cm : Nat → Addr} {f : Addr} {fd : FuncData} (B : Bl mg) (F : FunD K "is_between" "is_between" (defArgs (top 11)) (defBody (top 11)) (defScope (top 11)) [] [] f fd) (G_is_integer : DefOk P w K mg base ⟨K, cm, [], w⟩ "is_integer" ["thing"] 1 (pureF F_is_integer)) :
    FnG P w K mg base 2 f fd ["thing", "low", "high"] (spD ⟨K, cm, [], w⟩ 3 F_is_between) :=
  fnD_of (k := 1) (E := ⟨K, cm, [], w⟩) F sc_is_between rfl (fun cdv A outer s H Ex W X hX hr hgu tk hp => by
    subst hX
    have nd : (["thing", "low", "high"] : List Str).Nodup := sc_is_between.nd
    exact (ds_one (st_ret (de_and (de_def G_is_integer hr hgu tk rfl (da_cons (dv 0) da_nil) (aCons_len aNil_len)) (de_one (de_chain op_le op_le leS leS (dv 1) (dv 0) (dv 2)))))))
theorem ok_is_between {P : Program} {w : World} {K : PySem.W.Frag} {mg : Str → Option Value} {base : Heap} {cm : Nat → Addr} {f : Addr} {fd : FuncData} (B : Bl mg) (F : FunD K "is_between" "is_between" (defArgs (top 11)) (defBody (top 11)) (defScope (top 11)) [] [] f fd) (gf : mg "is_between" = some (.ref f)) (G_is_integer : DefOk P w K mg base ⟨K, cm, [], w⟩ "is_integer" ["thing"] 1 (pureF F_is_integer)) :
    DefOk P w K mg base ⟨K, cm, [], w⟩ "is_between" ["thing", "low", "high"] 2 F_is_between :=
  ⟨f, fd, fng_is_between B F G_is_integer, gf, F.kp, F.bindsN fun _ _ _ _ _ _ us hl => match us, hl with | [_, _, _], _ => rfl⟩
/-! is_onto -/
def e_is_onto_1 : FE := (eOp opMod (eOp opAdd (eVar 1) (eVar 2)) (eCall opLen (aCons (eVar 0) aNil)))
def b_is_onto : FS := (sRet (eOp opEq (eCall opLen (aCons (eSetC false (iWalk enumT (eVar 0)) (gT [1, 2]) tYesD e_is_onto_1 [1, 2]) aNil)) (eCall opLen (aCons (eVar 0) aNil))))
def F_is_onto : FD := runD 2 b_is_onto
theorem sc_is_onto : FnScope ["holds", "place", "hold"] ["holds"] (defScope (top 12)) := ⟨rfl, rfl, rfl, by decide +kernel, rfl, by decide +kernel, by decide +kernel⟩
theorem fng_is_onto {P : Program} {w : World} {K : PySem.W.Frag} {mg : Str → Option Value} {base : Heap} {cm : Nat → Addr} {f : Addr} {fd : FuncData} (B : Bl mg) (F : FunD K "is_onto" "is_onto" (defArgs (top 12)) (defBody (top 12)) (defScope (top 12)) [] [] f fd) :
    FnG P w K mg base 1 f fd ["holds"] (spD ⟨K, cm, [], w⟩ 1 F_is_onto) :=
  fnD_of (k := 0) (E := ⟨K, cm, [], w⟩) F sc_is_onto rfl (fun cdv A outer s H Ex W X hX hr hgu tk hp => by
    subst hX
    have nd : (["holds", "place", "hold"] : List Str).Nodup := sc_is_onto.nd
    exact (ds_one (st_ret (de_cmp (op_eqA (roomE hr)) eqS (nomark _) (de_callB cr_lenA lenS rfl B.len boot_len (da_cons (de_setC (new := false) rfl rfl nd (own := [("place", 1), ("hold", 2)]) (di_enumT rfl rfl B.enumerate (dv 0)) (blk_ok (by kernel_rfl)) (tOwn_tup (by decide)) (hgt_tup rfl rfl) (fun _ _ _ _ _ => (pg_tup rfl (pgs_cons (pg_name nd rfl (Or.inl rfl) (by first | exact .inl rfl | exact .inr rfl)) (pgs_cons (pg_name nd rfl (Or.inl rfl) (by first | exact .inl rfl | exact .inr rfl)) pgs_nil)))) (fun _ _ _ _ _ => dts_nil) (fun _ _ _ _ _ => (de_op op_mod modS (de_op op_addA addS (dv 1) (dv 2)) (de_callB cr_lenA lenS rfl B.len boot_len (da_cons (dv 0) da_nil))))) da_nil)) (de_callB cr_lenA lenS rfl B.len boot_len (da_cons (dv 0) da_nil))))))
theorem ok_is_onto {P : Program} {w : World} {K : PySem.W.Frag} {mg : Str → Option Value} {base : Heap} {cm : Nat → Addr} {f : Addr} {fd : FuncData} (B : Bl mg) (F : FunD K "is_onto" "is_onto" (defArgs (top 12)) (defBody (top 12)) (defScope (top 12)) [] [] f fd) (gf : mg "is_onto" = some (.ref f)) :
    DefOk P w K mg base ⟨K, cm, [], w⟩ "is_onto" ["holds"] 1 F_is_onto :=
  ⟨f, fd, fng_is_onto B F , gf, F.kp, F.bindsN fun _ _ _ _ _ _ us hl => match us, hl with | [_], _ => rfl⟩
/-! is_table -/
def e_is_table_1 : FE := (eFn (pureF F_is_between) (aCons (eVar 1) (aCons (eC (.int 0)) (aCons (eC (.int 60)) aNil))))
def b_is_table : FS := (sSeq (sIf (tOrD (tNotD (tVal (eThen (opIsi isTup) (eVar 0)))) (tNotD (tVal (eChain opLe opLe (eC (.int 1)) (eCall opLen (aCons (eVar 0) aNil)) (eC (.int 24))))))
  (sRet (eC (.bl false)))
  sNil)
  (sRet (eAnd (eCall opAllL (aCons (eComp (iSeqT (eVar 0)) (gN 1) tYesD e_is_table_1 [1]) aNil)) (eFn (pureF F_is_onto) (aCons (eVar 0) aNil)))))
def F_is_table : FD := runD 1 b_is_table
theorem sc_is_table : FnScope ["thing", "hold"] ["thing"] (defScope (top 13)) := ⟨rfl, rfl, rfl, by decide +kernel, rfl, by decide +kernel, by decide +kernel⟩
theorem fng_is_table {P : Program} {w : World} {K : PySem.W.Frag} {mg : Str → Option Value} {base : Heap} {cm : Nat → Addr} {f : Addr} {fd : FuncData} (B : Bl mg) (F : FunD K "is_table" "is_table" (defArgs (top 13)) (defBody (top 13)) (defScope (top 13)) [] [] f fd) (G_is_between : DefOk P w K mg base ⟨K, cm, [], w⟩ "is_between" ["thing", "low", "high"] 2 (pureF F_is_between)) (G_is_onto : DefOk P w K mg base ⟨K, cm, [], w⟩ "is_onto" ["holds"] 1 (pureF F_is_onto)) :
    FnG P w K mg base 3 f fd ["thing"] (spD ⟨K, cm, [], w⟩ 1 F_is_table) :=
  fnD_of (k := 2) (E := ⟨K, cm, [], w⟩) F sc_is_table rfl (fun cdv A outer s H Ex W X hX hr hgu tk hp => by
    subst hX
    have nd : (["thing", "hold"] : List Str).Nodup := sc_is_table.nd
    exact (ds_cons (st_if (dt_of_w (dw_or (dt_not (dt_val (de_isi rfl rfl B.isinstance rfl B.tuple_ boot_tuple isTup_k (dv 0)))) (dw_or1 (dt_not (dt_chain op_le op_le leS leS de_int (de_callB cr_lenA lenS rfl B.len boot_len (da_cons (dv 0) da_nil)) (de_globI B.longest rfl))))))
  (ds_one (st_ret de_bl))
  ds_nil)
  (ds_one (st_ret (de_and (de_callB (cr_all rfl) allLS rfl B.all boot_all (da_cons (de_lc rfl nd (own := [("hold", 1)]) (di_tup (dv 0) rfl) (blk_ok (by kernel_rfl)) (tOwn_name (by decide)) hgt_name (fun _ _ _ _ _ => (pg_name nd rfl (Or.inl rfl) (by first | exact .inl rfl | exact .inr rfl))) (fun _ _ _ _ _ => dts_nil) (fun _ _ _ _ _ => (de_def G_is_between hr hgu takesN rfl (da_cons (dv 1) (da_cons de_int (da_cons (de_globI B.greatest_hold rfl) da_nil))) (aCons_len (aCons_len (aCons_len aNil_len)))))) da_nil)) (de_one (de_def G_is_onto hr hgu tk rfl (da_cons (dv 0) da_nil) (aCons_len aNil_len))))))))
theorem ok_is_table {P : Program} {w : World} {K : PySem.W.Frag} {mg : Str → Option Value} {base : Heap} {cm : Nat → Addr} {f : Addr} {fd : FuncData} (B : Bl mg) (F : FunD K "is_table" "is_table" (defArgs (top 13)) (defBody (top 13)) (defScope (top 13)) [] [] f fd) (gf : mg "is_table" = some (.ref f)) (G_is_between : DefOk P w K mg base ⟨K, cm, [], w⟩ "is_between" ["thing", "low", "high"] 2 (pureF F_is_between)) (G_is_onto : DefOk P w K mg base ⟨K, cm, [], w⟩ "is_onto" ["holds"] 1 (pureF F_is_onto)) :
    DefOk P w K mg base ⟨K, cm, [], w⟩ "is_table" ["thing"] 3 F_is_table :=
  ⟨f, fd, fng_is_table B F G_is_between G_is_onto, gf, F.kp, F.bindsN fun _ _ _ _ _ _ us hl => match us, hl with | [_], _ => rfl⟩
/-! need_table -/
def b_need_table : FS := (sIf (tNotD (tVal (eFn (pureF F_is_table) (aCons (eVar 0) aNil))))
  (fun _ _ => .stuck)
  sNil)
def F_need_table : FD := runD 0 b_need_table
theorem sc_need_table : FnScope ["table"] ["table"] (defScope (top 14)) := ⟨rfl, rfl, rfl, by decide +kernel, rfl, by decide +kernel, by decide +kernel⟩
theorem fng_need_table {P : Program} {w : World} {K : PySem.W.Frag} {mg : Str → Option Value} {base : Heap} {cm : Nat → Addr} {f : Addr} {fd : FuncData} (B : Bl mg) (F : FunD K "need_table" "need_table" (defArgs (top 14)) (defBody (top 14)) (defScope (top 14)) [] [] f fd) (G_is_table : DefOk P w K mg base ⟨K, cm, [], w⟩ "is_table" ["thing"] 3 (pureF F_is_table)) :
    FnG P w K mg base 4 f fd ["table"] (spD ⟨K, cm, [], w⟩ 1 F_need_table) :=
  fnD_of (k := 3) (E := ⟨K, cm, [], w⟩) F sc_need_table rfl (fun cdv A outer s H Ex W X hX hr hgu tk hp => by
    subst hX
    have nd : (["table"] : List Str).Nodup := sc_need_table.nd
    exact (ds_one (st_if (dt_not (dt_val (de_def G_is_table hr hgu tk rfl (da_cons (dv 0) da_nil) (aCons_len aNil_len))))
  (ds_one st_never)
  ds_nil)))
theorem ok_need_table {P : Program} {w : World} {K : PySem.W.Frag} {mg : Str → Option Value} {base : Heap} {cm : Nat → Addr} {f : Addr} {fd : FuncData} (B : Bl mg) (F : FunD K "need_table" "need_table" (defArgs (top 14)) (defBody (top 14)) (defScope (top 14)) [] [] f fd) (gf : mg "need_table" = some (.ref f)) (G_is_table : DefOk P w K mg base ⟨K, cm, [], w⟩ "is_table" ["thing"] 3 (pureF F_is_table)) :
    DefOk P w K mg base ⟨K, cm, [], w⟩ "need_table" ["table"] 4 F_need_table :=
  ⟨f, fd, fng_need_table B F G_is_table, gf, F.kp, F.bindsN fun _ _ _ _ _ _ us hl => match us, hl with | [_], _ => rfl⟩
/-! hold_of -/
def b_hold_of : FS := (sRet (eOp opIx (eVar 0) (eOp opMod (eVar 1) (eCall opLen (aCons (eVar 0) aNil)))))
def F_hold_of : FD := runD 0 b_hold_of
theorem sc_hold_of : FnScope ["table", "thing"] ["table", "thing"] (defScope (top 15)) := ⟨rfl, rfl, rfl, by decide +kernel, rfl, by decide +kernel, by decide +kernel⟩
theorem fng_hold_of {P : Program} {w : World} {K : PySem.W.Frag} {mg : Str → Option Value} {base : Heap} {cm : Nat → Addr} {f : Addr} {fd : FuncData} (B : Bl mg) (F : FunD K "hold_of" "hold_of" (defArgs (top 15)) (defBody (top 15)) (defScope (top 15)) [] [] f fd) :
    FnG P w K mg base 1 f fd ["table", "thing"] (spD ⟨K, cm, [], w⟩ 2 F_hold_of) :=
  fnD_of (k := 0) (E := ⟨K, cm, [], w⟩) F sc_hold_of rfl (fun cdv A outer s H Ex W X hX hr hgu tk hp => by
    subst hX
    have nd : (["table", "thing"] : List Str).Nodup := sc_hold_of.nd
    exact (ds_one (st_ret (de_ix rfl hr (dv 0) (de_op op_mod modS (dv 1) (de_callB cr_lenA lenS rfl B.len boot_len (da_cons (dv 0) da_nil)))))))
theorem ok_hold_of {P : Program} {w : World} {K : PySem.W.Frag} {mg : Str → Option Value} {base : Heap} {cm : Nat → Addr} {f : Addr} {fd : FuncData} (B : Bl mg) (F : FunD K "hold_of" "hold_of" (defArgs (top 15)) (defBody (top 15)) (defScope (top 15)) [] [] f fd) (gf : mg "hold_of" = some (.ref f)) :
    DefOk P w K mg base ⟨K, cm, [], w⟩ "hold_of" ["table", "thing"] 1 F_hold_of :=
  ⟨f, fd, fng_hold_of B F , gf, F.kp, F.bindsN fun _ _ _ _ _ _ us hl => match us, hl with | [_, _], _ => rfl⟩
/-! out_of -/
def b_out_of : FS := (sRet (eOp opAdd (eVar 1) (eFn (pureF F_hold_of) (aCons (eVar 0) (aCons (eVar 1) aNil)))))
def F_out_of : FD := runD 0 b_out_of
theorem sc_out_of : FnScope ["table", "thing"] ["table", "thing"] (defScope (top 16)) := ⟨rfl, rfl, rfl, by decide +kernel, rfl, by decide +kernel, by decide +kernel⟩
theorem fng_out_of {P : Program} {w : World} {K : PySem.W.Frag} {mg : Str → Option Value} {base : Heap} {cm : Nat → Addr} {f : Addr} {fd : FuncData} (B : Bl mg) (F : FunD K "out_of" "out_of" (defArgs (top 16)) (defBody (top 16)) (defScope (top 16)) [] [] f fd) (G_hold_of : DefOk P w K mg base ⟨K, cm, [], w⟩ "hold_of" ["table", "thing"] 1 (pureF F_hold_of)) :
    FnG P w K mg base 2 f fd ["table", "thing"] (spD ⟨K, cm, [], w⟩ 2 F_out_of) :=
  fnD_of (k := 1) (E := ⟨K, cm, [], w⟩) F sc_out_of rfl (fun cdv A outer s H Ex W X hX hr hgu tk hp => by
    subst hX
    have nd : (["table", "thing"] : List Str).Nodup := sc_out_of.nd
    exact (ds_one (st_ret (de_op op_addA addS (dv 1) (de_def G_hold_of hr hgu tk rfl (da_cons (dv 0) (da_cons (dv 1) da_nil)) (aCons_len (aCons_len aNil_len)))))))
theorem ok_out_of {P : Program} {w : World} {K : PySem.W.Frag} {mg : Str → Option Value} {base : Heap} {cm : Nat → Addr} {f : Addr} {fd : FuncData} (B : Bl mg) (F : FunD K "out_of" "out_of" (defArgs (top 16)) (defBody (top 16)) (defScope (top 16)) [] [] f fd) (gf : mg "out_of" = some (.ref f)) (G_hold_of : DefOk P w K mg base ⟨K, cm, [], w⟩ "hold_of" ["table", "thing"] 1 (pureF F_hold_of)) :
    DefOk P w K mg base ⟨K, cm, [], w⟩ "out_of" ["table", "thing"] 2 F_out_of :=
  ⟨f, fd, fng_out_of B F G_hold_of, gf, F.kp, F.bindsN fun _ _ _ _ _ _ us hl => match us, hl with | [_, _], _ => rfl⟩
/-! back_of -/
def l_back_of_1 : FS := (sPut (eOp opSub (eCall opMaxA (aCons (eVar 0) aNil)) (eVar 3)) (eVar 1) (eOp opMod (eOp opAdd (eVar 2) (eVar 3)) (eCall opLen (aCons (eVar 0) aNil))))
def b_back_of : FS := (sSeq (sSet 1 (eOp opMulN (eLst (aCons (eC (.int 0)) aNil)) (eCall opLen (aCons (eVar 0) aNil))))
  (sSeq (sFor (iWalk enumT (eVar 0)) (gT [2, 3])
  l_back_of_1)
  (sRet (eThen opTup (eVar 1)))))
def F_back_of : FD := runD 3 b_back_of
theorem sc_back_of : FnScope ["table", "holds", "place", "hold"] ["table"] (defScope (top 17)) := ⟨rfl, rfl, rfl, by decide +kernel, rfl, by decide +kernel, by decide +kernel⟩
theorem fng_back_of {P : Program} {w : World} {K : PySem.W.Frag} {mg : Str → Option Value} {base : Heap} {cm : Nat → Addr} {f : Addr} {fd : FuncData} (B : Bl mg) (F : FunD K "back_of" "back_of" (defArgs (top 17)) (defBody (top 17)) (defScope (top 17)) [] [] f fd) :
    FnG P w K mg base 1 f fd ["table"] (spD ⟨K, cm, [], w⟩ 1 F_back_of) :=
  fnD_of (k := 0) (E := ⟨K, cm, [], w⟩) F sc_back_of rfl (fun cdv A outer s H Ex W X hX hr hgu tk hp => by
    subst hX
    have nd : (["table", "holds", "place", "hold"] : List Str).Nodup := sc_back_of.nd
    exact (ds_cons (st_set nd rfl (Or.inl rfl) (de_op op_rep mulNS (de_lst (da_cons de_int da_nil)) (de_callB cr_lenA lenS rfl B.len boot_len (da_cons (dv 0) da_nil))))
  (ds_cons (st_for hp rfl (di_enumT rfl rfl B.enumerate (dv 0)) (dg_tup rfl rfl (pgs_cons (pg_name nd rfl (Or.inl rfl) (by first | exact .inl rfl | exact .inr rfl)) (pgs_cons (pg_name nd rfl (Or.inl rfl) (by first | exact .inl rfl | exact .inr rfl)) pgs_nil)))
  (ds_one (st_put hr (de_op op_sub subS (de_callB (cr_or (cr_maxT rfl) (cr_max rfl)) maxAS rfl B.max boot_max (da_cons (dv 0) da_nil)) (dv 3)) (dv 1) (de_op op_mod modS (de_op op_addA addS (dv 2) (dv 3)) (de_callB cr_lenA lenS rfl B.len boot_len (da_cons (dv 0) da_nil))))))
  (ds_one (st_ret (de_tupleOf rfl rfl B.tuple_ (dv 1)))))))
theorem ok_back_of {P : Program} {w : World} {K : PySem.W.Frag} {mg : Str → Option Value} {base : Heap} {cm : Nat → Addr} {f : Addr} {fd : FuncData} (B : Bl mg) (F : FunD K "back_of" "back_of" (defArgs (top 17)) (defBody (top 17)) (defScope (top 17)) [] [] f fd) (gf : mg "back_of" = some (.ref f)) :
    DefOk P w K mg base ⟨K, cm, [], w⟩ "back_of" ["table"] 1 F_back_of :=
  ⟨f, fd, fng_back_of B F , gf, F.kp, F.bindsN fun _ _ _ _ _ _ us hl => match us, hl with | [_], _ => rfl⟩
/-! delay -/
def b_delay : FS := (sSeq (sExpr (eFn (pureF F_need_table) (aCons (eVar 0) aNil)))
  (sRet (eCall opMaxA (aCons (eVar 0) aNil))))
def F_delay : FD := runD 0 b_delay
theorem sc_delay : FnScope ["table"] ["table"] (defScope (top 18)) := ⟨rfl, rfl, rfl, by decide +kernel, rfl, by decide +kernel, by decide +kernel⟩
theorem fng_delay {P : Program} {w : World} {K : PySem.W.Frag} {mg : Str → Option Value} {base : Heap} {cm : Nat → Addr} {f : Addr} {fd : FuncData} (B : Bl mg) (F : FunD K "delay" "delay" (defArgs (top 18)) (defBody (top 18)) (defScope (top 18)) [] [] f fd) (G_need_table : DefOk P w K mg base ⟨K, cm, [], w⟩ "need_table" ["table"] 4 (pureF F_need_table)) :
    FnG P w K mg base 5 f fd ["table"] (spD ⟨K, cm, [], w⟩ 1 F_delay) :=
  fnD_of (k := 4) (E := ⟨K, cm, [], w⟩) F sc_delay rfl (fun cdv A outer s H Ex W X hX hr hgu tk hp => by
    subst hX
    have nd : (["table"] : List Str).Nodup := sc_delay.nd
    exact (ds_cons (st_expr (de_def G_need_table hr hgu tk rfl (da_cons (dv 0) da_nil) (aCons_len aNil_len)))
  (ds_one (st_ret (de_callB (cr_or (cr_maxT rfl) (cr_max rfl)) maxAS rfl B.max boot_max (da_cons (dv 0) da_nil))))))
theorem ok_delay {P : Program} {w : World} {K : PySem.W.Frag} {mg : Str → Option Value} {base : Heap} {cm : Nat → Addr} {f : Addr} {fd : FuncData} (B : Bl mg) (F : FunD K "delay" "delay" (defArgs (top 18)) (defBody (top 18)) (defScope (top 18)) [] [] f fd) (gf : mg "delay" = some (.ref f)) (G_need_table : DefOk P w K mg base ⟨K, cm, [], w⟩ "need_table" ["table"] 4 (pureF F_need_table)) :
    DefOk P w K mg base ⟨K, cm, [], w⟩ "delay" ["table"] 5 F_delay :=
  ⟨f, fd, fng_delay B F G_need_table, gf, F.kp, F.bindsN fun _ _ _ _ _ _ us hl => match us, hl with | [_], _ => rfl⟩
/-! back -/
def b_back : FS := (sSeq (sExpr (eFn (pureF F_need_table) (aCons (eVar 0) aNil)))
  (sRet (eFn (pureF F_back_of) (aCons (eVar 0) aNil))))
def F_back : FD := runD 0 b_back
theorem sc_back : FnScope ["table"] ["table"] (defScope (top 19)) := ⟨rfl, rfl, rfl, by decide +kernel, rfl, by decide +kernel, by decide +kernel⟩
theorem fng_back {P : Program} {w : World} {K : PySem.W.Frag} {mg : Str → Option Value} {base : Heap} {cm : Nat → Addr} {f : Addr} {fd : FuncData} (B : Bl mg) (F : FunD K "back" "back" (defArgs (top 19)) (defBody (top 19)) (defScope (top 19)) [] [] f fd) (G_back_of : DefOk P w K mg base ⟨K, cm, [], w⟩ "back_of" ["table"] 1 (pureF F_back_of)) (G_need_table : DefOk P w K mg base ⟨K, cm, [], w⟩ "need_table" ["table"] 4 (pureF F_need_table)) :
    FnG P w K mg base 5 f fd ["table"] (spD ⟨K, cm, [], w⟩ 1 F_back) :=
  fnD_of (k := 4) (E := ⟨K, cm, [], w⟩) F sc_back rfl (fun cdv A outer s H Ex W X hX hr hgu tk hp => by
    subst hX
    have nd : (["table"] : List Str).Nodup := sc_back.nd
    exact (ds_cons (st_expr (de_def G_need_table hr hgu tk rfl (da_cons (dv 0) da_nil) (aCons_len aNil_len)))
  (ds_one (st_ret (de_def G_back_of hr hgu tk rfl (da_cons (dv 0) da_nil) (aCons_len aNil_len))))))
theorem ok_back {P : Program} {w : World} {K : PySem.W.Frag} {mg : Str → Option Value} {base : Heap} {cm : Nat → Addr} {f : Addr} {fd : FuncData} (B : Bl mg) (F : FunD K "back" "back" (defArgs (top 19)) (defBody (top 19)) (defScope (top 19)) [] [] f fd) (gf : mg "back" = some (.ref f)) (G_back_of : DefOk P w K mg base ⟨K, cm, [], w⟩ "back_of" ["table"] 1 (pureF F_back_of)) (G_need_table : DefOk P w K mg base ⟨K, cm, [], w⟩ "need_table" ["table"] 4 (pureF F_need_table)) :
    DefOk P w K mg base ⟨K, cm, [], w⟩ "back" ["table"] 5 F_back :=
  ⟨f, fd, fng_back B F G_back_of G_need_table, gf, F.kp, F.bindsN fun _ _ _ _ _ _ us hl => match us, hl with | [_], _ => rfl⟩
/-! is_apart -/
def l_is_apart_1 : FS := (sSeq (sSet 7 (eOp opSub (eOp opAdd (eVar 5) (eOp opMul (eVar 6) (eVar 0))) (eVar 4)))
  (sIf (tAndD (tVal (eOp opNe (eVar 7) (eC (.int 0)))) (tAndD (tVal (eOp opLt (eCall opAbs (aCons (eVar 7) aNil)) (eVar 2))) (tVal (eOp opLt (eCall opAbs (aCons (eOp opSub (eOp opAdd (eVar 7) (eOp opIx (eVar 1) (eVar 5))) (eOp opIx (eVar 1) (eVar 4))) aNil)) (eVar 3)))))
  (sRet (eC (.bl false)))
  sNil))
def l_is_apart_2 : FS := (sFor (iRange rng2 (aCons (eOp opSub (eOp opDiv (eUn opNeg (eVar 2)) (eVar 0)) (eC (.int 1))) (aCons (eOp opAdd (eOp opDiv (eVar 2) (eVar 0)) (eC (.int 2))) aNil))) (gN 6)
  l_is_apart_1)
def b_is_apart : FS := (sSeq (sSet 4 (eOp opSub (eCall opLen (aCons (eVar 1) aNil)) (eC (.int 1))))
  (sSeq (sFor (iRange rng1 (aCons (eCall opLen (aCons (eVar 1) aNil)) aNil)) (gN 5)
  l_is_apart_2)
  (sRet (eC (.bl true)))))
def F_is_apart : FD := runD 4 b_is_apart
theorem sc_is_apart : FnScope ["length", "holds", "a", "b", "last", "place", "turn", "apart"] ["length", "holds", "a", "b"] (defScope (top 24)) := ⟨rfl, rfl, rfl, by decide +kernel, rfl, by decide +kernel, by decide +kernel⟩
theorem fng_is_apart {P : Program} {w : World} {K : PySem.W.Frag} {mg : Str → Option Value} {base : Heap} {cm : Nat → Addr} {f : Addr} {fd : FuncData} (B : Bl mg) (F : FunD K "is_apart" "is_apart" (defArgs (top 24)) (defBody (top 24)) (defScope (top 24)) [] [] f fd) :
    FnG P w K mg base 1 f fd ["length", "holds", "a", "b"] (spD ⟨K, cm, [], w⟩ 4 F_is_apart) :=
  fnD_of (k := 0) (E := ⟨K, cm, [], w⟩) F sc_is_apart rfl (fun cdv A outer s H Ex W X hX hr hgu tk hp => by
    subst hX
    have nd : (["length", "holds", "a", "b", "last", "place", "turn", "apart"] : List Str).Nodup := sc_is_apart.nd
    exact (ds_cons (st_set nd rfl (Or.inl rfl) (de_op op_sub subS (de_callB cr_lenA lenS rfl B.len boot_len (da_cons (dv 1) da_nil)) de_int))
  (ds_cons (st_for hp rfl (di_range1 rfl B.range (da_cons (de_callB cr_lenA lenS rfl B.len boot_len (da_cons (dv 1) da_nil)) da_nil)) (dg_name nd rfl (Or.inl rfl))
  (ds_one (st_for hp rfl (di_range2 rfl B.range (da_cons (de_op op_sub subS (de_op op_fdiv divS (de_un un_neg negS (dv 2)) (dv 0)) de_int) (da_cons (de_op op_addA addS (de_op op_fdiv divS (dv 2) (dv 0)) de_int) da_nil))) (dg_name nd rfl (Or.inl rfl))
  (ds_cons (st_set nd rfl (Or.inl rfl) (de_op op_sub subS (de_op op_addA addS (dv 5) (de_op op_mulA mulS (dv 6) (dv 0))) (dv 4)))
  (ds_one (st_if (dt_of_w (dw_and (dt_cmp (op_neA (roomE hr)) neS (nomark _) (dv 7) de_int) (dw_and (dt_cmp op_lt ltS (nomark _) (de_callB call_abs absS rfl B.abs boot_abs (da_cons (dv 7) da_nil)) (dv 2)) (dw_and1 (dt_cmp op_lt ltS (nomark _) (de_callB call_abs absS rfl B.abs boot_abs (da_cons (de_op op_sub subS (de_op op_addA addS (dv 7) (de_ix rfl hr (dv 1) (dv 5))) (de_ix rfl hr (dv 1) (dv 4))) da_nil)) (dv 3))))))
  (ds_one (st_ret de_bl))
  ds_nil))))))
  (ds_one (st_ret de_bl)))))
theorem ok_is_apart {P : Program} {w : World} {K : PySem.W.Frag} {mg : Str → Option Value} {base : Heap} {cm : Nat → Addr} {f : Addr} {fd : FuncData} (B : Bl mg) (F : FunD K "is_apart" "is_apart" (defArgs (top 24)) (defBody (top 24)) (defScope (top 24)) [] [] f fd) (gf : mg "is_apart" = some (.ref f)) :
    DefOk P w K mg base ⟨K, cm, [], w⟩ "is_apart" ["length", "holds", "a", "b"] 1 F_is_apart :=
  ⟨f, fd, fng_is_apart B F , gf, F.kp, F.bindsN fun _ _ _ _ _ _ us hl => match us, hl with | [_, _, _, _], _ => rfl⟩
/-! tables_with -/
def e_tables_with_1 : FE := (eOp opMod (eOp opAdd (eVar 10) (eVar 9)) (eVar 0))
def l_tables_with_1 : FS := (sIf (tAndD (tVal (eOp opNotIn (eOp opMod (eOp opAdd (eVar 5) (eVar 9)) (eVar 0)) (eVar 8))) (tVal (eFn (pureF F_is_apart) (aCons (eVar 0) (aCons (eOp opAdd (eVar 7) (eTup (aCons (eVar 9) aNil))) (aCons (eVar 2) (aCons (eVar 3) aNil)))))))
  (sExpr (eMt isLst opAppend (eVar 6) (aCons (eOp opAdd (eVar 7) (eTup (aCons (eVar 9) aNil))) aNil)))
  sNil)
def l_tables_with_2 : FS := (sSeq (sSet 8 (eComp (iWalk enumT (eVar 7)) (gT [10, 9]) tYesD e_tables_with_1 [10, 9]))
  (sFor (iRange rng1 (aCons (eOp opAdd (eVar 1) (eC (.int 1))) aNil)) (gN 9)
  l_tables_with_1))
def l_tables_with_3 : FS := (sSeq (sSet 6 (eNew aNil))
  (sSeq (sFor (iSeqA (eVar 4)) (gN 7)
  l_tables_with_2)
  (sSet 4 (eVar 6))))
def b_tables_with : FS := (sSeq (sSet 4 (eLst (aCons (eTup aNil) aNil)))
  (sSeq (sFor (iRange rng1 (aCons (eVar 0) aNil)) (gN 5)
  l_tables_with_3)
  (sRet (eVar 4))))
def F_tables_with : FD := runD 7 b_tables_with
theorem sc_tables_with : FnScope ["length", "most", "a", "b", "rows", "place", "later", "row", "gone", "hold", "spot"] ["length", "most", "a", "b"] (defScope (top 25)) := ⟨rfl, rfl, rfl, by decide +kernel, rfl, by decide +kernel, by decide +kernel⟩
theorem fng_tables_with {P : Program} {w : World} {K : PySem.W.Frag} {mg : Str → Option Value} {base : Heap} {cm : Nat → Addr} {f : Addr} {fd : FuncData} (B : Bl mg) (F : FunD K "tables_with" "tables_with" (defArgs (top 25)) (defBody (top 25)) (defScope (top 25)) [] [] f fd) (G_is_apart : DefOk P w K mg base ⟨K, cm, [], w⟩ "is_apart" ["length", "holds", "a", "b"] 1 (pureF F_is_apart)) :
    FnG P w K mg base 2 f fd ["length", "most", "a", "b"] (spD ⟨K, cm, [], w⟩ 4 F_tables_with) :=
  fnD_of (k := 1) (E := ⟨K, cm, [], w⟩) F sc_tables_with rfl (fun cdv A outer s H Ex W X hX hr hgu tk hp => by
    subst hX
    have nd : (["length", "most", "a", "b", "rows", "place", "later", "row", "gone", "hold", "spot"] : List Str).Nodup := sc_tables_with.nd
    exact (ds_cons (st_set nd rfl (Or.inl rfl) (de_lst (da_cons (de_tup da_nil) da_nil)))
  (ds_cons (st_for hp rfl (di_range1 rfl B.range (da_cons (dv 0) da_nil)) (dg_name nd rfl (Or.inl rfl))
  (ds_cons (st_set nd rfl (Or.inl rfl) (de_new da_nil))
  (ds_cons (st_for hp rfl (di_seqA (dv 4) rfl) (dg_name nd rfl (Or.inl rfl))
  (ds_cons (st_lc rfl nd rfl rfl (by rfl) (own := [("spot", 10), ("hold", 9)]) (di_enumT rfl rfl B.enumerate (dv 7)) (blk_ok (by kernel_rfl)) (tOwn_tup (by decide)) (hgt_tup rfl rfl) (fun _ _ _ _ _ => (pg_tup rfl (pgs_cons (pg_name nd rfl (Or.inl rfl) (by first | exact .inl rfl | exact .inr rfl)) (pgs_cons (pg_name nd rfl (Or.inl rfl) (by first | exact .inl rfl | exact .inr rfl)) pgs_nil)))) (fun _ _ _ _ _ => dts_nil) (fun _ _ _ _ _ => (de_op op_mod modS (de_op op_addA addS (dv 10) (dv 9)) (dv 0))))
  (ds_one (st_for hp rfl (di_range1 rfl B.range (da_cons (de_op op_addA addS (dv 1) de_int) da_nil)) (dg_name nd rfl (Or.inl rfl))
  (ds_one (st_if (dt_of_w (dw_and (dt_cmp (op_notInA hr) notInA_S (by with_unfolding_all rfl) (de_op op_mod modS (de_op op_addA addS (dv 5) (dv 9)) (dv 0)) (dv 8)) (dw_and1 (dt_val (de_def G_is_apart hr hgu tk rfl (da_cons (dv 0) (da_cons (de_op op_addA addS (dv 7) (de_tup (da_cons (dv 9) da_nil))) (da_cons (dv 2) (da_cons (dv 3) da_nil)))) (aCons_len (aCons_len (aCons_len (aCons_len aNil_len)))))))))
  (ds_one (st_expr (de_bm rfl PySem.F.plainAttrs_list PySem.F.slot_list_append PySem.F.type_list_append mt_append appendS chk_lst (dv 6) (da_cons (de_op op_addA addS (dv 7) (de_tup (da_cons (dv 9) da_nil))) da_nil))))
  ds_nil))))))
  (ds_one (st_set nd rfl (Or.inl rfl) (dv 6))))))
  (ds_one (st_ret (dv 4))))))
theorem ok_tables_with {P : Program} {w : World} {K : PySem.W.Frag} {mg : Str → Option Value} {base : Heap} {cm : Nat → Addr} {f : Addr} {fd : FuncData} (B : Bl mg) (F : FunD K "tables_with" "tables_with" (defArgs (top 25)) (defBody (top 25)) (defScope (top 25)) [] [] f fd) (gf : mg "tables_with" = some (.ref f)) (G_is_apart : DefOk P w K mg base ⟨K, cm, [], w⟩ "is_apart" ["length", "holds", "a", "b"] 1 (pureF F_is_apart)) :
    DefOk P w K mg base ⟨K, cm, [], w⟩ "tables_with" ["length", "most", "a", "b"] 2 F_tables_with :=
  ⟨f, fd, fng_tables_with B F G_is_apart, gf, F.kp, F.bindsN fun _ _ _ _ _ _ us hl => match us, hl with | [_, _, _, _], _ => rfl⟩
/-! need_kind -/
def b_need_kind : FS := (sSeq (sIf (tNotD (tVal (eFn (pureF F_is_between) (aCons (eVar 0) (aCons (eC (.int 1)) (aCons (eC (.int 4)) aNil))))))
  (fun _ _ => .stuck)
  sNil)
  (sIf (tOrD (tNotD (tVal (eFn (pureF F_is_between) (aCons (eVar 1) (aCons (eC (.int 1)) (aCons (eC (.int 5)) aNil)))))) (tNotD (tVal (eFn (pureF F_is_between) (aCons (eVar 2) (aCons (eC (.int 1)) (aCons (eC (.int 5)) aNil)))))))
  (fun _ _ => .stuck)
  sNil))
def F_need_kind : FD := runD 0 b_need_kind
theorem sc_need_kind : FnScope ["length", "a", "b"] ["length", "a", "b"] (defScope (top 26)) := ⟨rfl, rfl, rfl, by decide +kernel, rfl, by decide +kernel, by decide +kernel⟩
theorem fng_need_kind {P : Program} {w : World} {K : PySem.W.Frag} {mg : Str → Option Value} {base : Heap} {cm : Nat → Addr} {f : Addr} {fd : FuncData} (B : Bl mg) (F : FunD K "need_kind" "need_kind" (defArgs (top 26)) (defBody (top 26)) (defScope (top 26)) [] [] f fd) (G_is_between : DefOk P w K mg base ⟨K, cm, [], w⟩ "is_between" ["thing", "low", "high"] 2 (pureF F_is_between)) :
    FnG P w K mg base 3 f fd ["length", "a", "b"] (spD ⟨K, cm, [], w⟩ 3 F_need_kind) :=
  fnD_of (k := 2) (E := ⟨K, cm, [], w⟩) F sc_need_kind rfl (fun cdv A outer s H Ex W X hX hr hgu tk hp => by
    subst hX
    have nd : (["length", "a", "b"] : List Str).Nodup := sc_need_kind.nd
    exact (ds_cons (st_if (dt_not (dt_val (de_def G_is_between hr hgu tk rfl (da_cons (dv 0) (da_cons de_int (da_cons (de_globI B.most_length rfl) da_nil))) (aCons_len (aCons_len (aCons_len aNil_len))))))
  (ds_one st_never)
  ds_nil)
  (ds_one (st_if (dt_of_w (dw_or (dt_not (dt_val (de_def G_is_between hr hgu tk rfl (da_cons (dv 1) (da_cons de_int (da_cons (de_globI B.most_spread rfl) da_nil))) (aCons_len (aCons_len (aCons_len aNil_len)))))) (dw_or1 (dt_not (dt_val (de_def G_is_between hr hgu tk rfl (da_cons (dv 2) (da_cons de_int (da_cons (de_globI B.most_spread rfl) da_nil))) (aCons_len (aCons_len (aCons_len aNil_len)))))))))
  (ds_one st_never)
  ds_nil))))
theorem ok_need_kind {P : Program} {w : World} {K : PySem.W.Frag} {mg : Str → Option Value} {base : Heap} {cm : Nat → Addr} {f : Addr} {fd : FuncData} (B : Bl mg) (F : FunD K "need_kind" "need_kind" (defArgs (top 26)) (defBody (top 26)) (defScope (top 26)) [] [] f fd) (gf : mg "need_kind" = some (.ref f)) (G_is_between : DefOk P w K mg base ⟨K, cm, [], w⟩ "is_between" ["thing", "low", "high"] 2 (pureF F_is_between)) :
    DefOk P w K mg base ⟨K, cm, [], w⟩ "need_kind" ["length", "a", "b"] 3 F_need_kind :=
  ⟨f, fd, fng_need_kind B F G_is_between, gf, F.kp, F.bindsN fun _ _ _ _ _ _ us hl => match us, hl with | [_, _, _], _ => rfl⟩
/-! best -/
def wt_best_1 : FT := (tVal (eC (.bl true)))
def wl_best_1 : FS := (sSeq (sSet 4 (eFn (pureF F_tables_with) (aCons (eVar 0) (aCons (eVar 3) (aCons (eVar 1) (aCons (eVar 2) aNil))))))
  (sSeq (sIf (tVal (eOp opNe (eVar 4) (eLst aNil)))
  (sRet (eTup (aCons (eVar 3) (aCons (eOp opIx (eVar 4) (eC (.int 0))) aNil))))
  sNil)
  (sAug 3 (eC (.int 1)) fun i j => i + j)))
def b_best : FS := (sSeq (sExpr (eFn (pureF F_need_kind) (aCons (eVar 0) (aCons (eVar 1) (aCons (eVar 2) aNil)))))
  (sSeq (sIf (tVal (eOp opGt (eCall opMin2 (aCons (eVar 1) (aCons (eVar 2) aNil))) (eVar 0)))
  (sRet (eC .non))
  sNil)
  (sSeq (sSet 3 (eC (.int 0)))
  (whileD wt_best_1
  wl_best_1 1000))))
def F_best : FD := runD 2 b_best
theorem sc_best : FnScope ["length", "a", "b", "most", "found"] ["length", "a", "b"] (defScope (top 27)) := ⟨rfl, rfl, rfl, by decide +kernel, rfl, by decide +kernel, by decide +kernel⟩
theorem fng_best {P : Program} {w : World} {K : PySem.W.Frag} {mg : Str → Option Value} {base : Heap} {cm : Nat → Addr} {f : Addr} {fd : FuncData} (B : Bl mg) (F : FunD K "best" "best" (defArgs (top 27)) (defBody (top 27)) (defScope (top 27)) [] [] f fd) (G_need_kind : DefOk P w K mg base ⟨K, cm, [], w⟩ "need_kind" ["length", "a", "b"] 3 (pureF F_need_kind)) (G_tables_with : DefOk P w K mg base ⟨K, cm, [], w⟩ "tables_with" ["length", "most", "a", "b"] 2 (pureF F_tables_with)) :
    FnG P w K mg base 4 f fd ["length", "a", "b"] (spD ⟨K, cm, [], w⟩ 3 F_best) :=
  fnD_of (k := 3) (E := ⟨K, cm, [], w⟩) F sc_best rfl (fun cdv A outer s H Ex W X hX hr hgu tk hp => by
    subst hX
    have nd : (["length", "a", "b", "most", "found"] : List Str).Nodup := sc_best.nd
    exact (ds_cons (st_expr (de_def G_need_kind hr hgu tk rfl (da_cons (dv 0) (da_cons (dv 1) (da_cons (dv 2) da_nil))) (aCons_len (aCons_len (aCons_len aNil_len)))))
  (ds_cons (st_if (dt_cmp op_gt gtS (nomark _) (de_callB (call_min2 rfl) min2S rfl B.min boot_min (da_cons (dv 1) (da_cons (dv 2) da_nil))) (dv 0))
  (ds_one (st_ret de_non))
  ds_nil)
  (ds_cons (st_set nd rfl (Or.inl rfl) de_int)
  (ds_one (st_while hp (dt_val de_bl)
  (ds_cons (st_set nd rfl (Or.inl rfl) (de_def G_tables_with hr hgu tk rfl (da_cons (dv 0) (da_cons (dv 3) (da_cons (dv 1) (da_cons (dv 2) da_nil)))) (aCons_len (aCons_len (aCons_len (aCons_len aNil_len))))))
  (ds_cons (st_if (dt_cmp (op_neA (roomE hr)) neS (nomark _) (dv 4) (de_lst da_nil))
  (ds_one (st_ret (de_tup (da_cons (dv 3) (da_cons (de_ix rfl hr (dv 4) de_int) da_nil)))))
  ds_nil)
  (ds_one (st_aug nd rfl (Or.inl rfl) ip_add de_int))))))))))
theorem ok_best {P : Program} {w : World} {K : PySem.W.Frag} {mg : Str → Option Value} {base : Heap} {cm : Nat → Addr} {f : Addr} {fd : FuncData} (B : Bl mg) (F : FunD K "best" "best" (defArgs (top 27)) (defBody (top 27)) (defScope (top 27)) [] [] f fd) (gf : mg "best" = some (.ref f)) (G_need_kind : DefOk P w K mg base ⟨K, cm, [], w⟩ "need_kind" ["length", "a", "b"] 3 (pureF F_need_kind)) (G_tables_with : DefOk P w K mg base ⟨K, cm, [], w⟩ "tables_with" ["length", "most", "a", "b"] 2 (pureF F_tables_with)) :
    DefOk P w K mg base ⟨K, cm, [], w⟩ "best" ["length", "a", "b"] 4 F_best :=
  ⟨f, fd, fng_best B F G_need_kind G_tables_with, gf, F.kp, F.bindsN fun _ _ _ _ _ _ us hl => match us, hl with | [_, _, _], _ => rfl⟩
/-! all_with -/
def b_all_with : FS := (sSeq (sIf (tNotD (tVal (eFn (pureF F_is_between) (aCons (eVar 0) (aCons (eC (.int 1)) (aCons (eC (.int 4)) aNil))))))
  (fun _ _ => .stuck)
  sNil)
  (sSeq (sIf (tNotD (tVal (eFn (pureF F_is_between) (aCons (eVar 1) (aCons (eC (.int 0)) (aCons (eC (.int 8)) aNil))))))
  (fun _ _ => .stuck)
  sNil)
  (sSeq (sExpr (eFn (pureF F_need_kind) (aCons (eVar 0) (aCons (eVar 2) (aCons (eVar 3) aNil)))))
  (sRet (eThen opTup (eFn (pureF F_tables_with) (aCons (eVar 0) (aCons (eVar 1) (aCons (eVar 2) (aCons (eVar 3) aNil))))))))))
def F_all_with : FD := runD 0 b_all_with
theorem sc_all_with : FnScope ["length", "most", "a", "b"] ["length", "most", "a", "b"] (defScope (top 28)) := ⟨rfl, rfl, rfl, by decide +kernel, rfl, by decide +kernel, by decide +kernel⟩
theorem fng_all_with {P : Program} {w : World} {K : PySem.W.Frag} {mg : Str → Option Value} {base : Heap} {cm : Nat → Addr} {f : Addr} {fd : FuncData} (B : Bl mg) (F : FunD K "all_with" "all_with" (defArgs (top 28)) (defBody (top 28)) (defScope (top 28)) [] [] f fd) (G_is_between : DefOk P w K mg base ⟨K, cm, [], w⟩ "is_between" ["thing", "low", "high"] 2 (pureF F_is_between)) (G_need_kind : DefOk P w K mg base ⟨K, cm, [], w⟩ "need_kind" ["length", "a", "b"] 3 (pureF F_need_kind)) (G_tables_with : DefOk P w K mg base ⟨K, cm, [], w⟩ "tables_with" ["length", "most", "a", "b"] 2 (pureF F_tables_with)) :
    FnG P w K mg base 4 f fd ["length", "most", "a", "b"] (spD ⟨K, cm, [], w⟩ 4 F_all_with) :=
  fnD_of (k := 3) (E := ⟨K, cm, [], w⟩) F sc_all_with rfl (fun cdv A outer s H Ex W X hX hr hgu tk hp => by
    subst hX
    have nd : (["length", "most", "a", "b"] : List Str).Nodup := sc_all_with.nd
    exact (ds_cons (st_if (dt_not (dt_val (de_def G_is_between hr hgu tk rfl (da_cons (dv 0) (da_cons de_int (da_cons (de_globI B.most_length rfl) da_nil))) (aCons_len (aCons_len (aCons_len aNil_len))))))
  (ds_one st_never)
  ds_nil)
  (ds_cons (st_if (dt_not (dt_val (de_def G_is_between hr hgu tk rfl (da_cons (dv 1) (da_cons de_int (da_cons (de_globI B.most_hold rfl) da_nil))) (aCons_len (aCons_len (aCons_len aNil_len))))))
  (ds_one st_never)
  ds_nil)
  (ds_cons (st_expr (de_def G_need_kind hr hgu tk rfl (da_cons (dv 0) (da_cons (dv 2) (da_cons (dv 3) da_nil))) (aCons_len (aCons_len (aCons_len aNil_len)))))
  (ds_one (st_ret (de_tupleOf rfl rfl B.tuple_ (de_def G_tables_with hr hgu tk rfl (da_cons (dv 0) (da_cons (dv 1) (da_cons (dv 2) (da_cons (dv 3) da_nil)))) (aCons_len (aCons_len (aCons_len (aCons_len aNil_len))))))))))))
theorem ok_all_with {P : Program} {w : World} {K : PySem.W.Frag} {mg : Str → Option Value} {base : Heap} {cm : Nat → Addr} {f : Addr} {fd : FuncData} (B : Bl mg) (F : FunD K "all_with" "all_with" (defArgs (top 28)) (defBody (top 28)) (defScope (top 28)) [] [] f fd) (gf : mg "all_with" = some (.ref f)) (G_is_between : DefOk P w K mg base ⟨K, cm, [], w⟩ "is_between" ["thing", "low", "high"] 2 (pureF F_is_between)) (G_need_kind : DefOk P w K mg base ⟨K, cm, [], w⟩ "need_kind" ["length", "a", "b"] 3 (pureF F_need_kind)) (G_tables_with : DefOk P w K mg base ⟨K, cm, [], w⟩ "tables_with" ["length", "most", "a", "b"] 2 (pureF F_tables_with)) :
    DefOk P w K mg base ⟨K, cm, [], w⟩ "all_with" ["length", "most", "a", "b"] 4 F_all_with :=
  ⟨f, fd, fng_all_with B F G_is_between G_need_kind G_tables_with, gf, F.kp, F.bindsN fun _ _ _ _ _ _ us hl => match us, hl with | [_, _, _, _], _ => rfl⟩
/-! need_distance -/
def b_need_distance : FS := (sIf (tNotD (tVal (eFn (pureF F_is_between) (aCons (eVar 0) (aCons (eC (.int 1)) (aCons (eVar 1) aNil))))))
  (fun _ _ => .stuck)
  sNil)
def F_need_distance : FD := runD 0 b_need_distance
theorem sc_need_distance : FnScope ["distance", "most"] ["distance", "most"] (defScope (top 39)) := ⟨rfl, rfl, rfl, by decide +kernel, rfl, by decide +kernel, by decide +kernel⟩
theorem fng_need_distance {P : Program} {w : World} {K : PySem.W.Frag} {mg : Str → Option Value} {base : Heap} {cm : Nat → Addr} {f : Addr} {fd : FuncData} (B : Bl mg) (F : FunD K "need_distance" "need_distance" (defArgs (top 39)) (defBody (top 39)) (defScope (top 39)) [] [] f fd) (G_is_between : DefOk P w K mg base ⟨K, cm, [], w⟩ "is_between" ["thing", "low", "high"] 2 (pureF F_is_between)) :
    FnG P w K mg base 3 f fd ["distance", "most"] (spD ⟨K, cm, [], w⟩ 2 F_need_distance) :=
  fnD_of (k := 2) (E := ⟨K, cm, [], w⟩) F sc_need_distance rfl (fun cdv A outer s H Ex W X hX hr hgu tk hp => by
    subst hX
    have nd : (["distance", "most"] : List Str).Nodup := sc_need_distance.nd
    exact (ds_one (st_if (dt_not (dt_val (de_def G_is_between hr hgu tk rfl (da_cons (dv 0) (da_cons de_int (da_cons (dv 1) da_nil))) (aCons_len (aCons_len (aCons_len aNil_len))))))
  (ds_one st_never)
  ds_nil)))
theorem ok_need_distance {P : Program} {w : World} {K : PySem.W.Frag} {mg : Str → Option Value} {base : Heap} {cm : Nat → Addr} {f : Addr} {fd : FuncData} (B : Bl mg) (F : FunD K "need_distance" "need_distance" (defArgs (top 39)) (defBody (top 39)) (defScope (top 39)) [] [] f fd) (gf : mg "need_distance" = some (.ref f)) (G_is_between : DefOk P w K mg base ⟨K, cm, [], w⟩ "is_between" ["thing", "low", "high"] 2 (pureF F_is_between)) :
    DefOk P w K mg base ⟨K, cm, [], w⟩ "need_distance" ["distance", "most"] 3 F_need_distance :=
  ⟨f, fd, fng_need_distance B F G_is_between, gf, F.kp, F.bindsN fun _ _ _ _ _ _ us hl => match us, hl with | [_, _], _ => rfl⟩
/-! distance_of -/
def b_distance_of : FS := (sRet (eCall opAbs (aCons (eOp opSub (eFn (pureF F_out_of) (aCons (eVar 0) (aCons (eVar 2) aNil))) (eFn (pureF F_out_of) (aCons (eVar 0) (aCons (eVar 1) aNil)))) aNil)))
def F_distance_of : FD := runD 0 b_distance_of
theorem sc_distance_of : FnScope ["table", "one", "other"] ["table", "one", "other"] (defScope (top 40)) := ⟨rfl, rfl, rfl, by decide +kernel, rfl, by decide +kernel, by decide +kernel⟩
theorem fng_distance_of {P : Program} {w : World} {K : PySem.W.Frag} {mg : Str → Option Value} {base : Heap} {cm : Nat → Addr} {f : Addr} {fd : FuncData} (B : Bl mg) (F : FunD K "distance_of" "distance_of" (defArgs (top 40)) (defBody (top 40)) (defScope (top 40)) [] [] f fd) (G_out_of : DefOk P w K mg base ⟨K, cm, [], w⟩ "out_of" ["table", "thing"] 2 (pureF F_out_of)) :
    FnG P w K mg base 3 f fd ["table", "one", "other"] (spD ⟨K, cm, [], w⟩ 3 F_distance_of) :=
  fnD_of (k := 2) (E := ⟨K, cm, [], w⟩) F sc_distance_of rfl (fun cdv A outer s H Ex W X hX hr hgu tk hp => by
    subst hX
    have nd : (["table", "one", "other"] : List Str).Nodup := sc_distance_of.nd
    exact (ds_one (st_ret (de_callB call_abs absS rfl B.abs boot_abs (da_cons (de_op op_sub subS (de_def G_out_of hr hgu tk rfl (da_cons (dv 0) (da_cons (dv 2) da_nil)) (aCons_len (aCons_len aNil_len))) (de_def G_out_of hr hgu tk rfl (da_cons (dv 0) (da_cons (dv 1) da_nil)) (aCons_len (aCons_len aNil_len)))) da_nil)))))
theorem ok_distance_of {P : Program} {w : World} {K : PySem.W.Frag} {mg : Str → Option Value} {base : Heap} {cm : Nat → Addr} {f : Addr} {fd : FuncData} (B : Bl mg) (F : FunD K "distance_of" "distance_of" (defArgs (top 40)) (defBody (top 40)) (defScope (top 40)) [] [] f fd) (gf : mg "distance_of" = some (.ref f)) (G_out_of : DefOk P w K mg base ⟨K, cm, [], w⟩ "out_of" ["table", "thing"] 2 (pureF F_out_of)) :
    DefOk P w K mg base ⟨K, cm, [], w⟩ "distance_of" ["table", "one", "other"] 3 F_distance_of :=
  ⟨f, fd, fng_distance_of B F G_out_of, gf, F.kp, F.bindsN fun _ _ _ _ _ _ us hl => match us, hl with | [_, _, _], _ => rfl⟩
/-! nearest_at -/
def e_nearest_at_1 : FE := (eFn (pureF F_distance_of) (aCons (eVar 0) (aCons (eVar 2) (aCons (eOp opAdd (eVar 2) (eVar 1)) aNil))))
def b_nearest_at : FS := (sRet (eCall opMinA (aCons (eComp (iRange rng1 (aCons (eCall opLen (aCons (eVar 0) aNil)) aNil)) (gN 2) tYesD e_nearest_at_1 [2]) aNil)))
def F_nearest_at : FD := runD 1 b_nearest_at
theorem sc_nearest_at : FnScope ["table", "apart", "thing"] ["table", "apart"] (defScope (top 41)) := ⟨rfl, rfl, rfl, by decide +kernel, rfl, by decide +kernel, by decide +kernel⟩
theorem fng_nearest_at {P : Program} {w : World} {K : PySem.W.Frag} {mg : Str → Option Value} {base : Heap} {cm : Nat → Addr} {f : Addr} {fd : FuncData} (B : Bl mg) (F : FunD K "nearest_at" "nearest_at" (defArgs (top 41)) (defBody (top 41)) (defScope (top 41)) [] [] f fd) (G_distance_of : DefOk P w K mg base ⟨K, cm, [], w⟩ "distance_of" ["table", "one", "other"] 3 (pureF F_distance_of)) :
    FnG P w K mg base 4 f fd ["table", "apart"] (spD ⟨K, cm, [], w⟩ 2 F_nearest_at) :=
  fnD_of (k := 3) (E := ⟨K, cm, [], w⟩) F sc_nearest_at rfl (fun cdv A outer s H Ex W X hX hr hgu tk hp => by
    subst hX
    have nd : (["table", "apart", "thing"] : List Str).Nodup := sc_nearest_at.nd
    exact (ds_one (st_ret (de_callB (cr_or (cr_minT rfl) (cr_min rfl)) minAS rfl B.min boot_min (da_cons (de_lc rfl nd (own := [("thing", 2)]) (di_range1 rfl B.range (da_cons (de_callB cr_lenA lenS rfl B.len boot_len (da_cons (dv 0) da_nil)) da_nil)) (blk_ok (by kernel_rfl)) (tOwn_name (by decide)) hgt_name (fun _ _ _ _ _ => (pg_name nd rfl (Or.inl rfl) (by first | exact .inl rfl | exact .inr rfl))) (fun _ _ _ _ _ => dts_nil) (fun _ _ _ _ _ => (de_def G_distance_of hr hgu takesN rfl (da_cons (dv 0) (da_cons (dv 2) (da_cons (de_op op_addA addS (dv 2) (dv 1)) da_nil))) (aCons_len (aCons_len (aCons_len aNil_len)))))) da_nil)))))
theorem ok_nearest_at {P : Program} {w : World} {K : PySem.W.Frag} {mg : Str → Option Value} {base : Heap} {cm : Nat → Addr} {f : Addr} {fd : FuncData} (B : Bl mg) (F : FunD K "nearest_at" "nearest_at" (defArgs (top 41)) (defBody (top 41)) (defScope (top 41)) [] [] f fd) (gf : mg "nearest_at" = some (.ref f)) (G_distance_of : DefOk P w K mg base ⟨K, cm, [], w⟩ "distance_of" ["table", "one", "other"] 3 (pureF F_distance_of)) :
    DefOk P w K mg base ⟨K, cm, [], w⟩ "nearest_at" ["table", "apart"] 4 F_nearest_at :=
  ⟨f, fd, fng_nearest_at B F G_distance_of, gf, F.kp, F.bindsN fun _ _ _ _ _ _ us hl => match us, hl with | [_, _], _ => rfl⟩
/-! near -/
def e_near_1 : FE := (eFn (pureF F_nearest_at) (aCons (eVar 0) (aCons (eVar 2) aNil)))
def b_near : FS := (sSeq (sExpr (eFn (pureF F_need_table) (aCons (eVar 0) aNil)))
  (sSeq (sExpr (eFn (pureF F_need_distance) (aCons (eVar 1) (aCons (eC (.int 500)) aNil))))
  (sRet (eCall opMinA (aCons (eComp (iRange rng2 (aCons (eC (.int 1)) (aCons (eOp opAdd (eVar 1) (eC (.int 1))) aNil))) (gN 2) tYesD e_near_1 [2]) aNil)))))
def F_near : FD := runD 1 b_near
theorem sc_near : FnScope ["table", "apart", "one"] ["table", "apart"] (defScope (top 42)) := ⟨rfl, rfl, rfl, by decide +kernel, rfl, by decide +kernel, by decide +kernel⟩
theorem fng_near {P : Program} {w : World} {K : PySem.W.Frag} {mg : Str → Option Value} {base : Heap} {cm : Nat → Addr} {f : Addr} {fd : FuncData} (B : Bl mg) (F : FunD K "near" "near" (defArgs (top 42)) (defBody (top 42)) (defScope (top 42)) [] [] f fd) (G_nearest_at : DefOk P w K mg base ⟨K, cm, [], w⟩ "nearest_at" ["table", "apart"] 4 (pureF F_nearest_at)) (G_need_distance : DefOk P w K mg base ⟨K, cm, [], w⟩ "need_distance" ["distance", "most"] 3 (pureF F_need_distance)) (G_need_table : DefOk P w K mg base ⟨K, cm, [], w⟩ "need_table" ["table"] 4 (pureF F_need_table)) :
    FnG P w K mg base 5 f fd ["table", "apart"] (spD ⟨K, cm, [], w⟩ 2 F_near) :=
  fnD_of (k := 4) (E := ⟨K, cm, [], w⟩) F sc_near rfl (fun cdv A outer s H Ex W X hX hr hgu tk hp => by
    subst hX
    have nd : (["table", "apart", "one"] : List Str).Nodup := sc_near.nd
    exact (ds_cons (st_expr (de_def G_need_table hr hgu tk rfl (da_cons (dv 0) da_nil) (aCons_len aNil_len)))
  (ds_cons (st_expr (de_def G_need_distance hr hgu tk rfl (da_cons (dv 1) (da_cons (de_globI B.farthest rfl) da_nil)) (aCons_len (aCons_len aNil_len))))
  (ds_one (st_ret (de_callB (cr_or (cr_minT rfl) (cr_min rfl)) minAS rfl B.min boot_min (da_cons (de_lc rfl nd (own := [("one", 2)]) (di_range2 rfl B.range (da_cons de_int (da_cons (de_op op_addA addS (dv 1) de_int) da_nil))) (blk_ok (by kernel_rfl)) (tOwn_name (by decide)) hgt_name (fun _ _ _ _ _ => (pg_name nd rfl (Or.inl rfl) (by first | exact .inl rfl | exact .inr rfl))) (fun _ _ _ _ _ => dts_nil) (fun _ _ _ _ _ => (de_def G_nearest_at hr hgu takesN rfl (da_cons (dv 0) (da_cons (dv 2) da_nil)) (aCons_len (aCons_len aNil_len))))) da_nil)))))))
theorem ok_near {P : Program} {w : World} {K : PySem.W.Frag} {mg : Str → Option Value} {base : Heap} {cm : Nat → Addr} {f : Addr} {fd : FuncData} (B : Bl mg) (F : FunD K "near" "near" (defArgs (top 42)) (defBody (top 42)) (defScope (top 42)) [] [] f fd) (gf : mg "near" = some (.ref f)) (G_nearest_at : DefOk P w K mg base ⟨K, cm, [], w⟩ "nearest_at" ["table", "apart"] 4 (pureF F_nearest_at)) (G_need_distance : DefOk P w K mg base ⟨K, cm, [], w⟩ "need_distance" ["distance", "most"] 3 (pureF F_need_distance)) (G_need_table : DefOk P w K mg base ⟨K, cm, [], w⟩ "need_table" ["table"] 4 (pureF F_need_table)) :
    DefOk P w K mg base ⟨K, cm, [], w⟩ "near" ["table", "apart"] 5 F_near :=
  ⟨f, fd, fng_near B F G_nearest_at G_need_distance G_need_table, gf, F.kp, F.bindsN fun _ _ _ _ _ _ us hl => match us, hl with | [_, _], _ => rfl⟩
/-! has -/
def b_has : FS := (sSeq (sExpr (eFn (pureF F_need_table) (aCons (eVar 0) aNil)))
  (sSeq (sExpr (eFn (pureF F_need_distance) (aCons (eVar 1) (aCons (eC (.int 500)) aNil))))
  (sSeq (sExpr (eFn (pureF F_need_distance) (aCons (eVar 2) (aCons (eC (.int 500)) aNil))))
  (sRet (eOr (eOp opEq (eVar 1) (eC (.int 1))) (eOp opGe (eFn (pureF F_near) (aCons (eVar 0) (aCons (eOp opSub (eVar 1) (eC (.int 1))) aNil))) (eVar 2)))))))
def F_has : FD := runD 0 b_has
theorem sc_has : FnScope ["table", "a", "b"] ["table", "a", "b"] (defScope (top 43)) := ⟨rfl, rfl, rfl, by decide +kernel, rfl, by decide +kernel, by decide +kernel⟩
theorem fng_has {P : Program} {w : World} {K : PySem.W.Frag} {mg : Str → Option Value} {base : Heap} {cm : Nat → Addr} {f : Addr} {fd : FuncData} (B : Bl mg) (F : FunD K "has" "has" (defArgs (top 43)) (defBody (top 43)) (defScope (top 43)) [] [] f fd) (G_near : DefOk P w K mg base ⟨K, cm, [], w⟩ "near" ["table", "apart"] 5 (pureF F_near)) (G_need_distance : DefOk P w K mg base ⟨K, cm, [], w⟩ "need_distance" ["distance", "most"] 3 (pureF F_need_distance)) (G_need_table : DefOk P w K mg base ⟨K, cm, [], w⟩ "need_table" ["table"] 4 (pureF F_need_table)) :
    FnG P w K mg base 6 f fd ["table", "a", "b"] (spD ⟨K, cm, [], w⟩ 3 F_has) :=
  fnD_of (k := 5) (E := ⟨K, cm, [], w⟩) F sc_has rfl (fun cdv A outer s H Ex W X hX hr hgu tk hp => by
    subst hX
    have nd : (["table", "a", "b"] : List Str).Nodup := sc_has.nd
    exact (ds_cons (st_expr (de_def G_need_table hr hgu tk rfl (da_cons (dv 0) da_nil) (aCons_len aNil_len)))
  (ds_cons (st_expr (de_def G_need_distance hr hgu tk rfl (da_cons (dv 1) (da_cons (de_globI B.farthest rfl) da_nil)) (aCons_len (aCons_len aNil_len))))
  (ds_cons (st_expr (de_def G_need_distance hr hgu tk rfl (da_cons (dv 2) (da_cons (de_globI B.farthest rfl) da_nil)) (aCons_len (aCons_len aNil_len))))
  (ds_one (st_ret (de_or (de_cmp (op_eqA (roomE hr)) eqS (nomark _) (dv 1) de_int) (de_one (de_cmp op_ge geS (nomark _) (de_def G_near hr hgu tk rfl (da_cons (dv 0) (da_cons (de_op op_sub subS (dv 1) de_int) da_nil)) (aCons_len (aCons_len aNil_len))) (dv 2))))))))))
theorem ok_has {P : Program} {w : World} {K : PySem.W.Frag} {mg : Str → Option Value} {base : Heap} {cm : Nat → Addr} {f : Addr} {fd : FuncData} (B : Bl mg) (F : FunD K "has" "has" (defArgs (top 43)) (defBody (top 43)) (defScope (top 43)) [] [] f fd) (gf : mg "has" = some (.ref f)) (G_near : DefOk P w K mg base ⟨K, cm, [], w⟩ "near" ["table", "apart"] 5 (pureF F_near)) (G_need_distance : DefOk P w K mg base ⟨K, cm, [], w⟩ "need_distance" ["distance", "most"] 3 (pureF F_need_distance)) (G_need_table : DefOk P w K mg base ⟨K, cm, [], w⟩ "need_table" ["table"] 4 (pureF F_need_table)) :
    DefOk P w K mg base ⟨K, cm, [], w⟩ "has" ["table", "a", "b"] 6 F_has :=
  ⟨f, fd, fng_has B F G_near G_need_distance G_need_table, gf, F.kp, F.bindsN fun _ _ _ _ _ _ us hl => match us, hl with | [_, _, _], _ => rfl⟩
/-! least_delay -/
def b_least_delay : FS := (sSeq (sExpr (eFn (pureF F_need_distance) (aCons (eVar 0) (aCons (eC (.int 58)) aNil))))
  (sSeq (sExpr (eFn (pureF F_need_distance) (aCons (eVar 1) (aCons (eC (.int 58)) aNil))))
  (sSeq (sIf (tVal (eOp opEq (eCall opMin2 (aCons (eVar 0) (aCons (eVar 1) aNil))) (eC (.int 1))))
  (sRet (eTup (aCons (eC (.int 0)) (aCons (eTup (aCons (eC (.int 0)) aNil)) aNil))))
  sNil)
  (sSeq (sIf (tVal (eOp opEq (eCall opMin2 (aCons (eVar 0) (aCons (eVar 1) aNil))) (eC (.int 2))))
  (sSeq (sSet 2 (eOp opSub (eOp opAdd (eCall opMax2 (aCons (eVar 0) (aCons (eVar 1) aNil))) (eC (.int 2))) (eOp opMod (eCall opMax2 (aCons (eVar 0) (aCons (eVar 1) aNil))) (eC (.int 2)))))
  (sRet (eTup (aCons (eVar 2) (aCons (eTup (aCons (eC (.int 0)) (aCons (eVar 2) aNil))) aNil)))))
  sNil)
  (sSeq (sIf (tVal (eOp opGt (eOp opMul (eOp opSub (eVar 0) (eC (.int 1))) (eOp opSub (eVar 1) (eC (.int 1)))) (eC (.int 4))))
  (fun _ _ => .stuck)
  sNil)
  (sSeq (fun _ _ => .stuck)
  (fun _ _ => .stuck)))))))
def F_least_delay : FD := runD 1 b_least_delay
theorem sc_least_delay : FnScope ["a", "b", "most"] ["a", "b"] (defScope (top 44)) := ⟨rfl, rfl, rfl, by decide +kernel, rfl, by decide +kernel, by decide +kernel⟩
theorem fng_least_delay {P : Program} {w : World} {K : PySem.W.Frag} {mg : Str → Option Value} {base : Heap} {cm : Nat → Addr} {f : Addr} {fd : FuncData} (B : Bl mg) (F : FunD K "least_delay" "least_delay" (defArgs (top 44)) (defBody (top 44)) (defScope (top 44)) [] [] f fd) (G_need_distance : DefOk P w K mg base ⟨K, cm, [], w⟩ "need_distance" ["distance", "most"] 3 (pureF F_need_distance)) :
    FnG P w K mg base 4 f fd ["a", "b"] (spD ⟨K, cm, [], w⟩ 2 F_least_delay) :=
  fnD_of (k := 3) (E := ⟨K, cm, [], w⟩) F sc_least_delay rfl (fun cdv A outer s H Ex W X hX hr hgu tk hp => by
    subst hX
    have nd : (["a", "b", "most"] : List Str).Nodup := sc_least_delay.nd
    exact (ds_cons (st_expr (de_def G_need_distance hr hgu tk rfl (da_cons (dv 0) (da_cons (de_globI B.widest rfl) da_nil)) (aCons_len (aCons_len aNil_len))))
  (ds_cons (st_expr (de_def G_need_distance hr hgu tk rfl (da_cons (dv 1) (da_cons (de_globI B.widest rfl) da_nil)) (aCons_len (aCons_len aNil_len))))
  (ds_cons (st_if (dt_cmp (op_eqA (roomE hr)) eqS (nomark _) (de_callB (call_min2 rfl) min2S rfl B.min boot_min (da_cons (dv 0) (da_cons (dv 1) da_nil))) de_int)
  (ds_one (st_ret (de_tup (da_cons de_int (da_cons (de_tup (da_cons de_int da_nil)) da_nil)))))
  ds_nil)
  (ds_cons (st_if (dt_cmp (op_eqA (roomE hr)) eqS (nomark _) (de_callB (call_min2 rfl) min2S rfl B.min boot_min (da_cons (dv 0) (da_cons (dv 1) da_nil))) de_int)
  (ds_cons (st_set nd rfl (Or.inl rfl) (de_op op_sub subS (de_op op_addA addS (de_callB (call_max2 rfl) max2S rfl B.max boot_max (da_cons (dv 0) (da_cons (dv 1) da_nil))) de_int) (de_op op_mod modS (de_callB (call_max2 rfl) max2S rfl B.max boot_max (da_cons (dv 0) (da_cons (dv 1) da_nil))) de_int)))
  (ds_one (st_ret (de_tup (da_cons (dv 2) (da_cons (de_tup (da_cons de_int (da_cons (dv 2) da_nil))) da_nil))))))
  ds_nil)
  (ds_cons (st_if (dt_cmp op_gt gtS (nomark _) (de_op op_mulA mulS (de_op op_sub subS (dv 0) de_int) (de_op op_sub subS (dv 1) de_int)) (de_globI B.most_searched rfl))
  (ds_one st_never)
  ds_nil)
  (ds_cons st_never
  (ds_one st_never))))))))
theorem ok_least_delay {P : Program} {w : World} {K : PySem.W.Frag} {mg : Str → Option Value} {base : Heap} {cm : Nat → Addr} {f : Addr} {fd : FuncData} (B : Bl mg) (F : FunD K "least_delay" "least_delay" (defArgs (top 44)) (defBody (top 44)) (defScope (top 44)) [] [] f fd) (gf : mg "least_delay" = some (.ref f)) (G_need_distance : DefOk P w K mg base ⟨K, cm, [], w⟩ "need_distance" ["distance", "most"] 3 (pureF F_need_distance)) :
    DefOk P w K mg base ⟨K, cm, [], w⟩ "least_delay" ["a", "b"] 4 F_least_delay :=
  ⟨f, fd, fng_least_delay B F G_need_distance, gf, F.kp, F.bindsN fun _ _ _ _ _ _ us hl => match us, hl with | [_, _], _ => rfl⟩
/-! _law_cell -/
def b_law_cell : FS := (sSeq (sIf (tVal (eOp opLt (eVar 1) (eCall opLen (aCons (eVar 0) aNil))))
  (sRet (eOp opIx (eVar 0) (eVar 1)))
  sNil)
  (sRet (eC (.int 0))))
def F_law_cell : FD := runD 0 b_law_cell
theorem sc_law_cell : FnScope ["_law_script", "_law_k"] ["_law_script", "_law_k"] (defScope (top 46)) := ⟨rfl, rfl, rfl, by decide +kernel, rfl, by decide +kernel, by decide +kernel⟩
theorem fng_law_cell {P : Program} {w : World} {K : PySem.W.Frag} {mg : Str → Option Value} {base : Heap} {cm : Nat → Addr} {f : Addr} {fd : FuncData} (B : Bl mg) (F : FunD K "_law_cell" "_law_cell" (defArgs (top 46)) (defBody (top 46)) (defScope (top 46)) [] [] f fd) :
    FnG P w K mg base 1 f fd ["_law_script", "_law_k"] (spD ⟨K, cm, [], w⟩ 2 F_law_cell) :=
  fnD_of (k := 0) (E := ⟨K, cm, [], w⟩) F sc_law_cell rfl (fun cdv A outer s H Ex W X hX hr hgu tk hp => by
    subst hX
    have nd : (["_law_script", "_law_k"] : List Str).Nodup := sc_law_cell.nd
    exact (ds_cons (st_if (dt_cmp op_lt ltS (nomark _) (dv 1) (de_callB cr_lenA lenS rfl B.len boot_len (da_cons (dv 0) da_nil)))
  (ds_one (st_ret (de_ix rfl hr (dv 0) (dv 1))))
  ds_nil)
  (ds_one (st_ret de_int))))
theorem ok_law_cell {P : Program} {w : World} {K : PySem.W.Frag} {mg : Str → Option Value} {base : Heap} {cm : Nat → Addr} {f : Addr} {fd : FuncData} (B : Bl mg) (F : FunD K "_law_cell" "_law_cell" (defArgs (top 46)) (defBody (top 46)) (defScope (top 46)) [] [] f fd) (gf : mg "_law_cell" = some (.ref f)) :
    DefOk P w K mg base ⟨K, cm, [], w⟩ "_law_cell" ["_law_script", "_law_k"] 1 F_law_cell :=
  ⟨f, fd, fng_law_cell B F , gf, F.kp, F.bindsN fun _ _ _ _ _ _ us hl => match us, hl with | [_, _], _ => rfl⟩
/-! _law_pen -/
def b_law_pen : FS := (sRet (eNew (aCons (eCall opMax2 (aCons (eC (.int 0)) (aCons (eOp opSub (eVar 0) (eOp opPow (eC (.int 10)) (eC (.int 18)))) aNil))) (aCons (eOp opAdd (eOp opMod (eVar 0) (eC (.int 2147483629))) (eC (.int 1))) (aCons (eC (.int 0)) aNil)))))
def F_law_pen : FD := runD 0 b_law_pen
theorem sc_law_pen : FnScope ["_law_cell_here"] ["_law_cell_here"] (defScope (top 47)) := ⟨rfl, rfl, rfl, by decide +kernel, rfl, by decide +kernel, by decide +kernel⟩
theorem fng_law_pen {P : Program} {w : World} {K : PySem.W.Frag} {mg : Str → Option Value} {base : Heap} {cm : Nat → Addr} {f : Addr} {fd : FuncData} (B : Bl mg) (F : FunD K "_law_pen" "_law_pen" (defArgs (top 47)) (defBody (top 47)) (defScope (top 47)) [] [] f fd) :
    FnG P w K mg base 1 f fd ["_law_cell_here"] (spD ⟨K, cm, [], w⟩ 1 F_law_pen) :=
  fnD_of (k := 0) (E := ⟨K, cm, [], w⟩) F sc_law_pen rfl (fun cdv A outer s H Ex W X hX hr hgu tk hp => by
    subst hX
    have nd : (["_law_cell_here"] : List Str).Nodup := sc_law_pen.nd
    exact (ds_one (st_ret (de_new (da_cons (de_callB (call_max2 rfl) max2S rfl B.max boot_max (da_cons de_int (da_cons (de_op op_sub subS (dv 0) (de_op op_pow powS de_int de_int)) da_nil))) (da_cons (de_op op_addA addS (de_op op_mod modS (dv 0) de_int) de_int) (da_cons de_int da_nil)))))))
theorem ok_law_pen {P : Program} {w : World} {K : PySem.W.Frag} {mg : Str → Option Value} {base : Heap} {cm : Nat → Addr} {f : Addr} {fd : FuncData} (B : Bl mg) (F : FunD K "_law_pen" "_law_pen" (defArgs (top 47)) (defBody (top 47)) (defScope (top 47)) [] [] f fd) (gf : mg "_law_pen" = some (.ref f)) :
    DefOk P w K mg base ⟨K, cm, [], w⟩ "_law_pen" ["_law_cell_here"] 1 F_law_pen :=
  ⟨f, fd, fng_law_pen B F , gf, F.kp, F.bindsN fun _ _ _ _ _ _ us hl => match us, hl with | [_], _ => rfl⟩
/-! _law_draw -/
def b_law_draw : FS := (sSeq (sIf (tVal (eOp opGt (eOp opIx (eVar 0) (eC (.int 0))) (eC (.int 0))))
  (sSeq (sSet 3 (eOp opMod (eOp opIx (eVar 0) (eC (.int 0))) (eVar 1)))
  (sSeq (sPut (eOp opDiv (eOp opIx (eVar 0) (eC (.int 0))) (eVar 1)) (eVar 0) (eC (.int 0)))
  (sRet (eVar 3))))
  sNil)
  (sSeq (sPut (eOp opAdd (eOp opIx (eVar 0) (eC (.int 2))) (eC (.int 1))) (eVar 0) (eC (.int 2)))
  (sSeq (sPut (eOp opMod (eOp opAdd (eOp opAdd (eOp opMul (eOp opIx (eVar 0) (eC (.int 1))) (eC (.int 48271))) (eOp opMul (eC (.int 1009)) (eOp opIx (eVar 0) (eC (.int 2))))) (eC (.int 7))) (eC (.int 2147483647))) (eVar 0) (eC (.int 1)))
  (sSeq (sSet 2 (eOp opMod (eOp opAdd (eOp opAdd (eOp opMul (eOp opIx (eVar 0) (eC (.int 1))) (eOp opIx (eVar 0) (eC (.int 1)))) (eOp opMul (eC (.int 69621)) (eOp opIx (eVar 0) (eC (.int 1))))) (eC (.int 11))) (eC (.int 2147483629))))
  (sSeq (sSet 2 (eOp opMod (eOp opAdd (eOp opMul (eVar 2) (eVar 2)) (eOp opMul (eC (.int 40014)) (eVar 2))) (eC (.int 2147483587))))
  (sRet (eOp opMod (eOp opDiv (eVar 2) (eC (.int 16))) (eVar 1))))))))
def F_law_draw : FD := runD 2 b_law_draw
theorem sc_law_draw : FnScope ["_law_pen_here", "_law_upto", "_law_stirred", "_law_found"] ["_law_pen_here", "_law_upto"] (defScope (top 48)) := ⟨rfl, rfl, rfl, by decide +kernel, rfl, by decide +kernel, by decide +kernel⟩
theorem fng_law_draw {P : Program} {w : World} {K : PySem.W.Frag} {mg : Str → Option Value} {base : Heap} {cm : Nat → Addr} {f : Addr} {fd : FuncData} (B : Bl mg) (F : FunD K "_law_draw" "_law_draw" (defArgs (top 48)) (defBody (top 48)) (defScope (top 48)) [] [] f fd) :
    FnG P w K mg base 1 f fd ["_law_pen_here", "_law_upto"] (spD ⟨K, cm, [], w⟩ 2 F_law_draw) :=
  fnD_of (k := 0) (E := ⟨K, cm, [], w⟩) F sc_law_draw rfl (fun cdv A outer s H Ex W X hX hr hgu tk hp => by
    subst hX
    have nd : (["_law_pen_here", "_law_upto", "_law_stirred", "_law_found"] : List Str).Nodup := sc_law_draw.nd
    exact (ds_cons (st_if (dt_cmp op_gt gtS (nomark _) (de_ix rfl hr (dv 0) de_int) de_int)
  (ds_cons (st_set nd rfl (Or.inl rfl) (de_op op_mod modS (de_ix rfl hr (dv 0) de_int) (dv 1)))
  (ds_cons (st_put hr (de_op op_fdiv divS (de_ix rfl hr (dv 0) de_int) (dv 1)) (dv 0) de_int)
  (ds_one (st_ret (dv 3)))))
  ds_nil)
  (ds_cons (st_put hr (de_op op_addA addS (de_ix rfl hr (dv 0) de_int) de_int) (dv 0) de_int)
  (ds_cons (st_put hr (de_op op_mod modS (de_op op_addA addS (de_op op_addA addS (de_op op_mulA mulS (de_ix rfl hr (dv 0) de_int) de_int) (de_op op_mulA mulS de_int (de_ix rfl hr (dv 0) de_int))) de_int) de_int) (dv 0) de_int)
  (ds_cons (st_set nd rfl (Or.inl rfl) (de_op op_mod modS (de_op op_addA addS (de_op op_addA addS (de_op op_mulA mulS (de_ix rfl hr (dv 0) de_int) (de_ix rfl hr (dv 0) de_int)) (de_op op_mulA mulS de_int (de_ix rfl hr (dv 0) de_int))) de_int) de_int))
  (ds_cons (st_set nd rfl (Or.inl rfl) (de_op op_mod modS (de_op op_addA addS (de_op op_mulA mulS (dv 2) (dv 2)) (de_op op_mulA mulS de_int (dv 2))) de_int))
  (ds_one (st_ret (de_op op_mod modS (de_op op_fdiv divS (dv 2) de_int) (dv 1))))))))))
theorem ok_law_draw {P : Program} {w : World} {K : PySem.W.Frag} {mg : Str → Option Value} {base : Heap} {cm : Nat → Addr} {f : Addr} {fd : FuncData} (B : Bl mg) (F : FunD K "_law_draw" "_law_draw" (defArgs (top 48)) (defBody (top 48)) (defScope (top 48)) [] [] f fd) (gf : mg "_law_draw" = some (.ref f)) :
    DefOk P w K mg base ⟨K, cm, [], w⟩ "_law_draw" ["_law_pen_here", "_law_upto"] 1 F_law_draw :=
  ⟨f, fd, fng_law_draw B F , gf, F.kp, F.bindsN fun _ _ _ _ _ _ us hl => match us, hl with | [_, _], _ => rfl⟩
/-! _law_has -/
def b_law_has : FS := (sRet (eAnd (eFn (pureF F_is_table) (aCons (eVar 0) aNil)) (eAnd (eFn (pureF F_has) (aCons (eVar 0) (aCons (eVar 1) (aCons (eVar 2) aNil)))) (eOp opEq (eFn (pureF F_delay) (aCons (eVar 0) aNil)) (eVar 3)))))
def F_law_has : FD := runD 0 b_law_has
theorem sc_law_has : FnScope ["_law_table", "_law_a", "_law_b", "_law_most"] ["_law_table", "_law_a", "_law_b", "_law_most"] (defScope (top 49)) := ⟨rfl, rfl, rfl, by decide +kernel, rfl, by decide +kernel, by decide +kernel⟩
theorem fng_law_has {P : Program} {w : World} {K : PySem.W.Frag} {mg : Str → Option Value} {base : Heap} {cm : Nat → Addr} {f : Addr} {fd : FuncData} (B : Bl mg) (F : FunD K "_law_has" "_law_has" (defArgs (top 49)) (defBody (top 49)) (defScope (top 49)) [] [] f fd) (G_delay : DefOk P w K mg base ⟨K, cm, [], w⟩ "delay" ["table"] 5 (pureF F_delay)) (G_has : DefOk P w K mg base ⟨K, cm, [], w⟩ "has" ["table", "a", "b"] 6 (pureF F_has)) (G_is_table : DefOk P w K mg base ⟨K, cm, [], w⟩ "is_table" ["thing"] 3 (pureF F_is_table)) :
    FnG P w K mg base 7 f fd ["_law_table", "_law_a", "_law_b", "_law_most"] (spD ⟨K, cm, [], w⟩ 4 F_law_has) :=
  fnD_of (k := 6) (E := ⟨K, cm, [], w⟩) F sc_law_has rfl (fun cdv A outer s H Ex W X hX hr hgu tk hp => by
    subst hX
    have nd : (["_law_table", "_law_a", "_law_b", "_law_most"] : List Str).Nodup := sc_law_has.nd
    exact (ds_one (st_ret (de_and (de_def G_is_table hr hgu tk rfl (da_cons (dv 0) da_nil) (aCons_len aNil_len)) (de_and (de_def G_has hr hgu tk rfl (da_cons (dv 0) (da_cons (dv 1) (da_cons (dv 2) da_nil))) (aCons_len (aCons_len (aCons_len aNil_len)))) (de_one (de_cmp (op_eqA (roomE hr)) eqS (nomark _) (de_def G_delay hr hgu tk rfl (da_cons (dv 0) da_nil) (aCons_len aNil_len)) (dv 3))))))))
theorem ok_law_has {P : Program} {w : World} {K : PySem.W.Frag} {mg : Str → Option Value} {base : Heap} {cm : Nat → Addr} {f : Addr} {fd : FuncData} (B : Bl mg) (F : FunD K "_law_has" "_law_has" (defArgs (top 49)) (defBody (top 49)) (defScope (top 49)) [] [] f fd) (gf : mg "_law_has" = some (.ref f)) (G_delay : DefOk P w K mg base ⟨K, cm, [], w⟩ "delay" ["table"] 5 (pureF F_delay)) (G_has : DefOk P w K mg base ⟨K, cm, [], w⟩ "has" ["table", "a", "b"] 6 (pureF F_has)) (G_is_table : DefOk P w K mg base ⟨K, cm, [], w⟩ "is_table" ["thing"] 3 (pureF F_is_table)) :
    DefOk P w K mg base ⟨K, cm, [], w⟩ "_law_has" ["_law_table", "_law_a", "_law_b", "_law_most"] 7 F_law_has :=
  ⟨f, fd, fng_law_has B F G_delay G_has G_is_table, gf, F.kp, F.bindsN fun _ _ _ _ _ _ us hl => match us, hl with | [_, _, _, _], _ => rfl⟩
/-! _law_length_right -/
def b_law_length_right : FS := (sSeq (sSet 5 (eFn (pureF F_best) (aCons (eVar 0) (aCons (eVar 1) (aCons (eVar 2) aNil)))))
  (sSeq (sIf (tVal (eOp opIsN (eVar 5) (eC .non)))
  (sRet (eOp opGt (eCall opMin2 (aCons (eVar 1) (aCons (eVar 2) aNil))) (eVar 0)))
  sNil)
  (sSeq (sAsg (eVar 5) (gT [6, 7]))
  (sSeq (sIf (tOrD (tVal (eOp opGt (eCall opMin2 (aCons (eVar 1) (aCons (eVar 2) aNil))) (eVar 0))) (tOrD (tVal (eOp opLt (eVar 6) (eVar 3))) (tOrD (tVal (eOp opNe (eCall opLen (aCons (eVar 7) aNil)) (eVar 0))) (tNotD (tVal (eFn (pureF F_law_has) (aCons (eVar 7) (aCons (eVar 1) (aCons (eVar 2) (aCons (eVar 6) aNil))))))))))
  (sRet (eC (.bl false)))
  sNil)
  (sSeq (sIf (tAndD (tVal (eOp opEq (eCall opLen (aCons (eVar 4) aNil)) (eVar 0))) (tVal (eOp opNe (eVar 6) (eVar 3))))
  (sRet (eC (.bl false)))
  sNil)
  (sSeq (sIf (tAndD (tVal (eOp opLt (eVar 6) (eC (.int 9)))) (tVal (eOp opNe (eOp opIx (eFn (pureF F_all_with) (aCons (eVar 0) (aCons (eVar 6) (aCons (eVar 1) (aCons (eVar 2) aNil))))) (eC (.int 0))) (eVar 7))))
  (sRet (eC (.bl false)))
  sNil)
  (sRet (eOr (eNot (eChain opLt opLt (eC (.int 0)) (eVar 6) (eC (.int 10)))) (eOp opEq (eFn (pureF F_all_with) (aCons (eVar 0) (aCons (eOp opSub (eVar 6) (eC (.int 1))) (aCons (eVar 1) (aCons (eVar 2) aNil))))) (eTup aNil))))))))))
def F_law_length_right : FD := runD 3 b_law_length_right
theorem sc_law_length_right : FnScope ["_law_length", "_law_a", "_law_b", "_law_least", "_law_table", "_law_found", "_law_most", "_law_first"] ["_law_length", "_law_a", "_law_b", "_law_least", "_law_table"] (defScope (top 50)) := ⟨rfl, rfl, rfl, by decide +kernel, rfl, by decide +kernel, by decide +kernel⟩
theorem fng_law_length_right {P : Program} {w : World} {K : PySem.W.Frag} {mg : Str → Option Value} {base : Heap} {cm : Nat → Addr} {f : Addr} {fd : FuncData} (B : Bl mg) (F : FunD K "_law_length_right" "_law_length_right" (defArgs (top 50)) (defBody (top 50)) (defScope (top 50)) [] [] f fd) (G__law_has : DefOk P w K mg base ⟨K, cm, [], w⟩ "_law_has" ["_law_table", "_law_a", "_law_b", "_law_most"] 7 (pureF F_law_has)) (G_all_with : DefOk P w K mg base ⟨K, cm, [], w⟩ "all_with" ["length", "most", "a", "b"] 4 (pureF F_all_with)) (G_best : DefOk P w K mg base ⟨K, cm, [], w⟩ "best" ["length", "a", "b"] 4 (pureF F_best)) :
    FnG P w K mg base 8 f fd ["_law_length", "_law_a", "_law_b", "_law_least", "_law_table"] (spD ⟨K, cm, [], w⟩ 5 F_law_length_right) :=
  fnD_of (k := 7) (E := ⟨K, cm, [], w⟩) F sc_law_length_right rfl (fun cdv A outer s H Ex W X hX hr hgu tk hp => by
    subst hX
    have nd : (["_law_length", "_law_a", "_law_b", "_law_least", "_law_table", "_law_found", "_law_most", "_law_first"] : List Str).Nodup := sc_law_length_right.nd
    exact (ds_cons (st_set nd rfl (Or.inl rfl) (de_def G_best hr hgu tk rfl (da_cons (dv 0) (da_cons (dv 1) (da_cons (dv 2) da_nil))) (aCons_len (aCons_len (aCons_len aNil_len)))))
  (ds_cons (st_if (dt_cmp op_isN isNS (nomark _) (dv 5) de_non)
  (ds_one (st_ret (de_cmp op_gt gtS (nomark _) (de_callB (call_min2 rfl) min2S rfl B.min boot_min (da_cons (dv 1) (da_cons (dv 2) da_nil))) (dv 0))))
  ds_nil)
  (ds_cons (st_asg (dv 5) (dg_tup rfl rfl (pgs_cons (pg_name nd rfl (Or.inl rfl) (by first | exact .inl rfl | exact .inr rfl)) (pgs_cons (pg_name nd rfl (Or.inl rfl) (by first | exact .inl rfl | exact .inr rfl)) pgs_nil))))
  (ds_cons (st_if (dt_of_w (dw_or (dt_cmp op_gt gtS (nomark _) (de_callB (call_min2 rfl) min2S rfl B.min boot_min (da_cons (dv 1) (da_cons (dv 2) da_nil))) (dv 0)) (dw_or (dt_cmp op_lt ltS (nomark _) (dv 6) (dv 3)) (dw_or (dt_cmp (op_neA (roomE hr)) neS (nomark _) (de_callB cr_lenA lenS rfl B.len boot_len (da_cons (dv 7) da_nil)) (dv 0)) (dw_or1 (dt_not (dt_val (de_def G__law_has hr hgu tk rfl (da_cons (dv 7) (da_cons (dv 1) (da_cons (dv 2) (da_cons (dv 6) da_nil)))) (aCons_len (aCons_len (aCons_len (aCons_len aNil_len))))))))))))
  (ds_one (st_ret de_bl))
  ds_nil)
  (ds_cons (st_if (dt_of_w (dw_and (dt_cmp (op_eqA (roomE hr)) eqS (nomark _) (de_callB cr_lenA lenS rfl B.len boot_len (da_cons (dv 4) da_nil)) (dv 0)) (dw_and1 (dt_cmp (op_neA (roomE hr)) neS (nomark _) (dv 6) (dv 3)))))
  (ds_one (st_ret de_bl))
  ds_nil)
  (ds_cons (st_if (dt_of_w (dw_and (dt_cmp op_lt ltS (nomark _) (dv 6) de_int) (dw_and1 (dt_cmp (op_neA (roomE hr)) neS (nomark _) (de_ix rfl hr (de_def G_all_with hr hgu tk rfl (da_cons (dv 0) (da_cons (dv 6) (da_cons (dv 1) (da_cons (dv 2) da_nil)))) (aCons_len (aCons_len (aCons_len (aCons_len aNil_len))))) de_int) (dv 7)))))
  (ds_one (st_ret de_bl))
  ds_nil)
  (ds_one (st_ret (de_or (de_not (de_chain op_lt op_lt ltS ltS de_int (dv 6) de_int)) (de_one (de_cmp (op_eqA (roomE hr)) eqS (nomark _) (de_def G_all_with hr hgu tk rfl (da_cons (dv 0) (da_cons (de_op op_sub subS (dv 6) de_int) (da_cons (dv 1) (da_cons (dv 2) da_nil)))) (aCons_len (aCons_len (aCons_len (aCons_len aNil_len))))) (de_tup da_nil)))))))))))))
theorem ok_law_length_right {P : Program} {w : World} {K : PySem.W.Frag} {mg : Str → Option Value} {base : Heap} {cm : Nat → Addr} {f : Addr} {fd : FuncData} (B : Bl mg) (F : FunD K "_law_length_right" "_law_length_right" (defArgs (top 50)) (defBody (top 50)) (defScope (top 50)) [] [] f fd) (gf : mg "_law_length_right" = some (.ref f)) (G__law_has : DefOk P w K mg base ⟨K, cm, [], w⟩ "_law_has" ["_law_table", "_law_a", "_law_b", "_law_most"] 7 (pureF F_law_has)) (G_all_with : DefOk P w K mg base ⟨K, cm, [], w⟩ "all_with" ["length", "most", "a", "b"] 4 (pureF F_all_with)) (G_best : DefOk P w K mg base ⟨K, cm, [], w⟩ "best" ["length", "a", "b"] 4 (pureF F_best)) :
    DefOk P w K mg base ⟨K, cm, [], w⟩ "_law_length_right" ["_law_length", "_law_a", "_law_b", "_law_least", "_law_table"] 8 F_law_length_right :=
  ⟨f, fd, fng_law_length_right B F G__law_has G_all_with G_best, gf, F.kp, F.bindsN fun _ _ _ _ _ _ us hl => match us, hl with | [_, _, _, _, _], _ => rfl⟩
/-! _law_right -/
def t_law_right_1 : FT := (tNotD (tVal (eFn (pureF F_law_length_right) (aCons (eVar 4) (aCons (eVar 0) (aCons (eVar 1) (aCons (eVar 2) (aCons (eVar 3) aNil))))))))
def e_law_right_1 : FE := (eVar 4)
def b_law_right : FS := (sSeq (sAsg (eFn (pureF F_least_delay) (aCons (eVar 0) (aCons (eVar 1) aNil))) (gT [2, 3]))
  (sSeq (sIf (tOrD (tNotD (tVal (eFn (pureF F_law_has) (aCons (eVar 3) (aCons (eVar 0) (aCons (eVar 1) (aCons (eVar 2) aNil))))))) (tVal (eOp opNe (eOp opIx (eFn (pureF F_least_delay) (aCons (eVar 1) (aCons (eVar 0) aNil))) (eC (.int 0))) (eVar 2))))
  (sRet (eC (.bl false)))
  sNil)
  (sSeq (sIf (tNotD (tVal (eFn (pureF F_law_has) (aCons (eFn (pureF F_back) (aCons (eVar 3) aNil)) (aCons (eVar 1) (aCons (eVar 0) (aCons (eVar 2) aNil)))))))
  (sRet (eC (.bl false)))
  sNil)
  (sRet (eOp opEq (eComp (iRange rng2 (aCons (eC (.int 1)) (aCons (eC (.int 4)) aNil))) (gN 4) t_law_right_1 e_law_right_1 [4]) (eLst aNil))))))
def F_law_right : FD := runD 3 b_law_right
theorem sc_law_right : FnScope ["_law_a", "_law_b", "_law_least", "_law_table", "_law_length"] ["_law_a", "_law_b"] (defScope (top 51)) := ⟨rfl, rfl, rfl, by decide +kernel, rfl, by decide +kernel, by decide +kernel⟩
theorem fng_law_right {P : Program} {w : World} {K : PySem.W.Frag} {mg : Str → Option Value} {base : Heap} {cm : Nat → Addr} {f : Addr} {fd : FuncData} (B : Bl mg) (F : FunD K "_law_right" "_law_right" (defArgs (top 51)) (defBody (top 51)) (defScope (top 51)) [] [] f fd) (G__law_has : DefOk P w K mg base ⟨K, cm, [], w⟩ "_law_has" ["_law_table", "_law_a", "_law_b", "_law_most"] 7 (pureF F_law_has)) (G__law_length_right : DefOk P w K mg base ⟨K, cm, [], w⟩ "_law_length_right" ["_law_length", "_law_a", "_law_b", "_law_least", "_law_table"] 8 (pureF F_law_length_right)) (G_back : DefOk P w K mg base ⟨K, cm, [], w⟩ "back" ["table"] 5 (pureF F_back)) (G_least_delay : DefOk P w K mg base ⟨K, cm, [], w⟩ "least_delay" ["a", "b"] 4 (pureF F_least_delay)) :
    FnG P w K mg base 9 f fd ["_law_a", "_law_b"] (spD ⟨K, cm, [], w⟩ 2 F_law_right) :=
  fnD_of (k := 8) (E := ⟨K, cm, [], w⟩) F sc_law_right rfl (fun cdv A outer s H Ex W X hX hr hgu tk hp => by
    subst hX
    have nd : (["_law_a", "_law_b", "_law_least", "_law_table", "_law_length"] : List Str).Nodup := sc_law_right.nd
    exact (ds_cons (st_asg (de_def G_least_delay hr hgu tk rfl (da_cons (dv 0) (da_cons (dv 1) da_nil)) (aCons_len (aCons_len aNil_len))) (dg_tup rfl rfl (pgs_cons (pg_name nd rfl (Or.inr rfl) (by first | exact .inl rfl | exact .inr rfl)) (pgs_cons (pg_name nd rfl (Or.inr rfl) (by first | exact .inl rfl | exact .inr rfl)) pgs_nil))))
  (ds_cons (st_if (dt_of_w (dw_or (dt_not (dt_val (de_def G__law_has hr hgu tk rfl (da_cons (dv 3) (da_cons (dv 0) (da_cons (dv 1) (da_cons (dv 2) da_nil)))) (aCons_len (aCons_len (aCons_len (aCons_len aNil_len))))))) (dw_or1 (dt_cmp (op_neA (roomE hr)) neS (nomark _) (de_ix rfl hr (de_def G_least_delay hr hgu tk rfl (da_cons (dv 1) (da_cons (dv 0) da_nil)) (aCons_len (aCons_len aNil_len))) de_int) (dv 2)))))
  (ds_one (st_ret de_bl))
  ds_nil)
  (ds_cons (st_if (dt_not (dt_val (de_def G__law_has hr hgu tk rfl (da_cons (de_def G_back hr hgu tk rfl (da_cons (dv 3) da_nil) (aCons_len aNil_len)) (da_cons (dv 1) (da_cons (dv 0) (da_cons (dv 2) da_nil)))) (aCons_len (aCons_len (aCons_len (aCons_len aNil_len)))))))
  (ds_one (st_ret de_bl))
  ds_nil)
  (ds_one (st_ret (de_cmp (op_eqA (roomE hr)) eqS (nomark _) (de_lc rfl nd (own := [("_law_length", 4)]) (di_range2 rfl B.range (da_cons de_int (da_cons de_int da_nil))) (blk_ok (by kernel_rfl)) (tOwn_name (by decide)) hgt_name (fun _ _ _ _ _ => (pg_name nd rfl (Or.inl rfl) (by first | exact .inl rfl | exact .inr rfl))) (fun _ _ _ _ _ => (dts_one (dt_not (dt_val (de_def G__law_length_right hr hgu takesN rfl (da_cons (dv 4) (da_cons (dv 0) (da_cons (dv 1) (da_cons (dv 2) (da_cons (dv 3) da_nil))))) (aCons_len (aCons_len (aCons_len (aCons_len (aCons_len aNil_len)))))))))) (fun _ _ _ _ _ => (dv 4))) (de_lst da_nil))))))))
theorem ok_law_right {P : Program} {w : World} {K : PySem.W.Frag} {mg : Str → Option Value} {base : Heap} {cm : Nat → Addr} {f : Addr} {fd : FuncData} (B : Bl mg) (F : FunD K "_law_right" "_law_right" (defArgs (top 51)) (defBody (top 51)) (defScope (top 51)) [] [] f fd) (gf : mg "_law_right" = some (.ref f)) (G__law_has : DefOk P w K mg base ⟨K, cm, [], w⟩ "_law_has" ["_law_table", "_law_a", "_law_b", "_law_most"] 7 (pureF F_law_has)) (G__law_length_right : DefOk P w K mg base ⟨K, cm, [], w⟩ "_law_length_right" ["_law_length", "_law_a", "_law_b", "_law_least", "_law_table"] 8 (pureF F_law_length_right)) (G_back : DefOk P w K mg base ⟨K, cm, [], w⟩ "back" ["table"] 5 (pureF F_back)) (G_least_delay : DefOk P w K mg base ⟨K, cm, [], w⟩ "least_delay" ["a", "b"] 4 (pureF F_least_delay)) :
    DefOk P w K mg base ⟨K, cm, [], w⟩ "_law_right" ["_law_a", "_law_b"] 9 F_law_right :=
  ⟨f, fd, fng_law_right B F G__law_has G__law_length_right G_back G_least_delay, gf, F.kp, F.bindsN fun _ _ _ _ _ _ us hl => match us, hl with | [_, _], _ => rfl⟩
/-! law -/
def l_law_1 : FS := (sSeq (sPar 4 5 (aCons (eOp opAdd (eC (.int 1)) (eFn F_law_draw (aCons (eVar 2) (aCons (eC (.int 2)) aNil)))) (aCons (eOp opAdd (eC (.int 1)) (eFn F_law_draw (aCons (eVar 2) (aCons (eC (.int 4)) aNil)))) aNil)))
  (sIf (tOrD (tNotD (tVal (eFn (pureF F_law_right) (aCons (eVar 4) (aCons (eVar 5) aNil))))) (tNotD (tVal (eFn (pureF F_law_right) (aCons (eVar 5) (aCons (eVar 4) aNil))))))
  (sRet (eC (.bl false)))
  sNil))
def l_law_2 : FS := (sSeq (sSet 2 (eFn F_law_pen (aCons (eFn F_law_cell (aCons (eVar 0) (aCons (eVar 1) aNil))) aNil)))
  (sFor (iRange rng1 (aCons (eC (.int 3)) aNil)) (gN 3)
  l_law_1))
def b_law : FS := (sSeq (sFor (iRange rng1 (aCons (eCall opMax2 (aCons (eC (.int 1)) (aCons (eCall opMin2 (aCons (eCall opLen (aCons (eVar 0) aNil)) (aCons (eC (.int 3)) aNil))) aNil))) aNil)) (gN 1)
  l_law_2)
  (sRet (eC (.bl true))))
def F_law : FD := runD 5 b_law
theorem sc_law : FnScope ["_law_script", "_law_k", "_law_pen_here", "_law_lap", "_law_one", "_law_other"] ["_law_script"] (defScope (top 52)) := ⟨rfl, rfl, rfl, by decide +kernel, rfl, by decide +kernel, by decide +kernel⟩
theorem fng_law {P : Program} {w : World} {K : PySem.W.Frag} {mg : Str → Option Value} {base : Heap} {cm : Nat → Addr} {f : Addr} {fd : FuncData} (B : Bl mg) (F : FunD K "law" "law" (defArgs (top 52)) (defBody (top 52)) (defScope (top 52)) [] [] f fd) (G__law_cell : DefOk P w K mg base ⟨K, cm, [], w⟩ "_law_cell" ["_law_script", "_law_k"] 1 F_law_cell) (G__law_draw : DefOk P w K mg base ⟨K, cm, [], w⟩ "_law_draw" ["_law_pen_here", "_law_upto"] 1 F_law_draw) (G__law_pen : DefOk P w K mg base ⟨K, cm, [], w⟩ "_law_pen" ["_law_cell_here"] 1 F_law_pen) (G__law_right : DefOk P w K mg base ⟨K, cm, [], w⟩ "_law_right" ["_law_a", "_law_b"] 9 (pureF F_law_right)) :
    FnG P w K mg base 10 f fd ["_law_script"] (spD ⟨K, cm, [], w⟩ 1 F_law) :=
  fnD_of (k := 9) (E := ⟨K, cm, [], w⟩) F sc_law rfl (fun cdv A outer s H Ex W X hX hr hgu tk hp => by
    subst hX
    have nd : (["_law_script", "_law_k", "_law_pen_here", "_law_lap", "_law_one", "_law_other"] : List Str).Nodup := sc_law.nd
    exact (ds_cons (st_for hp rfl (di_range1 rfl B.range (da_cons (de_callB (call_max2 rfl) max2S rfl B.max boot_max (da_cons de_int (da_cons (de_callB (call_min2 rfl) min2S rfl B.min boot_min (da_cons (de_callB cr_lenA lenS rfl B.len boot_len (da_cons (dv 0) da_nil)) (da_cons de_int da_nil))) da_nil))) da_nil)) (dg_name nd rfl (Or.inl rfl))
  (ds_cons (st_set nd rfl (Or.inl rfl) (de_def G__law_pen hr hgu tk rfl (da_cons (de_def G__law_cell hr hgu tk rfl (da_cons (dv 0) (da_cons (dv 1) da_nil)) (aCons_len (aCons_len aNil_len))) da_nil) (aCons_len aNil_len)))
  (ds_one (st_for hp rfl (di_range1 rfl B.range (da_cons de_int da_nil)) (dg_name nd rfl (Or.inl rfl))
  (ds_cons (st_par rfl nd rfl rfl (by decide) rfl rfl (da_cons (de_op op_addA addS de_int (de_def G__law_draw hr hgu tk rfl (da_cons (dv 2) (da_cons de_int da_nil)) (aCons_len (aCons_len aNil_len)))) (da_cons (de_op op_addA addS de_int (de_def G__law_draw hr hgu tk rfl (da_cons (dv 2) (da_cons de_int da_nil)) (aCons_len (aCons_len aNil_len)))) da_nil)) (by rfl))
  (ds_one (st_if (dt_of_w (dw_or (dt_not (dt_val (de_def G__law_right hr hgu tk rfl (da_cons (dv 4) (da_cons (dv 5) da_nil)) (aCons_len (aCons_len aNil_len))))) (dw_or1 (dt_not (dt_val (de_def G__law_right hr hgu tk rfl (da_cons (dv 5) (da_cons (dv 4) da_nil)) (aCons_len (aCons_len aNil_len))))))))
  (ds_one (st_ret de_bl))
  ds_nil)))))))
  (ds_one (st_ret de_bl))))
theorem ok_law {P : Program} {w : World} {K : PySem.W.Frag} {mg : Str → Option Value} {base : Heap} {cm : Nat → Addr} {f : Addr} {fd : FuncData} (B : Bl mg) (F : FunD K "law" "law" (defArgs (top 52)) (defBody (top 52)) (defScope (top 52)) [] [] f fd) (gf : mg "law" = some (.ref f)) (G__law_cell : DefOk P w K mg base ⟨K, cm, [], w⟩ "_law_cell" ["_law_script", "_law_k"] 1 F_law_cell) (G__law_draw : DefOk P w K mg base ⟨K, cm, [], w⟩ "_law_draw" ["_law_pen_here", "_law_upto"] 1 F_law_draw) (G__law_pen : DefOk P w K mg base ⟨K, cm, [], w⟩ "_law_pen" ["_law_cell_here"] 1 F_law_pen) (G__law_right : DefOk P w K mg base ⟨K, cm, [], w⟩ "_law_right" ["_law_a", "_law_b"] 9 (pureF F_law_right)) :
    DefOk P w K mg base ⟨K, cm, [], w⟩ "law" ["_law_script"] 10 F_law :=
  ⟨f, fd, fng_law B F G__law_cell G__law_draw G__law_pen G__law_right, gf, F.kp, F.bindsN fun _ _ _ _ _ _ us hl => match us, hl with | [_], _ => rfl⟩
-- depth {'is_integer': 1, 'is_between': 2, 'is_onto': 1, 'is_table': 3, 'need_table': 4, 'hold_of': 1, 'out_of': 2, 'back_of': 1, 'delay': 5, 'back': 5, 'is_apart': 1, 'tables_with': 2, 'need_kind': 3, 'best': 4, 'all_with': 4, 'need_distance': 3, 'distance_of': 3, 'nearest_at': 4, 'near': 5, 'has': 6, 'least_delay': 4, '_law_cell': 1, '_law_pen': 1, '_law_draw': 1, '_law_has': 7, '_law_length_right': 8, '_law_right': 9, 'law': 10}
-- free ['abs', 'all', 'bool', 'enumerate', 'int', 'isinstance', 'len', 'max', 'min', 'range', 'tuple'] ints ['FARTHEST', 'GREATEST_HOLD', 'LONGEST', 'MOST_HOLD', 'MOST_LENGTH', 'MOST_SEARCHED', 'MOST_SPREAD', 'WIDEST'] tops {'is_integer': 10, 'is_between': 11, 'is_onto': 12, 'is_table': 13, 'need_table': 14, 'hold_of': 15, 'out_of': 16, 'back_of': 17, 'delay': 18, 'back': 19, 'is_apart': 24, 'tables_with': 25, 'need_kind': 26, 'best': 27, 'all_with': 28, 'need_distance': 39, 'distance_of': 40, 'nearest_at': 41, 'near': 42, 'has': 43, 'least_delay': 44, '_law_cell': 46, '_law_pen': 47, '_law_draw': 48, '_law_has': 49, '_law_length_right': 50, '_law_right': 51, 'law': 52}
end G83

set_option linter.all false
set_option maxRecDepth 100000
set_option maxHeartbeats 0
/-! k83, the plain law: the twelve cases, by evaluation. -/
namespace G83
open PySem PySem.Spec PyProof.Rows L2 Dl
def isT (x : R D) : Bool := match x with | .ok (.bl true) [] => true | _ => false
theorem isT_eq {x : R D} (h : isT x = true) : x = .ok (.bl true) [] := by
  unfold isT at h
  split at h
  · rfl
  · cases h
theorem rt {a b : Int} (h : isT (F_law_right [.int a, .int b] []) = true) (S : List D) : pureF F_law_right [.int a, .int b] S = .ok (.bl true) S := by
  have e := isT_eq h
  unfold pureF
  rw [if_pos (by rfl), e]
  rfl
theorem a11 : isT (F_law_right [.int 1, .int 1] []) = true := by decide +kernel
theorem a12 : isT (F_law_right [.int 1, .int 2] []) = true := by decide +kernel
theorem a13 : isT (F_law_right [.int 1, .int 3] []) = true := by decide +kernel
theorem a14 : isT (F_law_right [.int 1, .int 4] []) = true := by decide +kernel
theorem a21 : isT (F_law_right [.int 2, .int 1] []) = true := by decide +kernel
theorem a31 : isT (F_law_right [.int 3, .int 1] []) = true := by decide +kernel
theorem a41 : isT (F_law_right [.int 4, .int 1] []) = true := by decide +kernel
theorem a22 : isT (F_law_right [.int 2, .int 2] []) = true := by decide +kernel
theorem a23 : isT (F_law_right [.int 2, .int 3] []) = true := by decide +kernel
theorem a24 : isT (F_law_right [.int 2, .int 4] []) = true := by decide +kernel
theorem a32 : isT (F_law_right [.int 3, .int 2] []) = true := by decide +kernel
theorem a42 : isT (F_law_right [.int 4, .int 2] []) = true := by decide +kernel
theorem right_ok {x y : Int} (x0 : 0 ≤ x) (x2 : x < 2) (y0 : 0 ≤ y) (y4 : y < 4) (S : List D) : pureF F_law_right [.int (1 + x), .int (1 + y)] S = .ok (.bl true) S ∧ pureF F_law_right [.int (1 + y), .int (1 + x)] S = .ok (.bl true) S := by
  obtain rfl | rfl : x = 0 ∨ x = 1 := by omega
  · obtain rfl | rfl | rfl | rfl : y = 0 ∨ y = 1 ∨ y = 2 ∨ y = 3 := by omega
    · exact ⟨rt a11 S, rt a11 S⟩
    · exact ⟨rt a12 S, rt a21 S⟩
    · exact ⟨rt a13 S, rt a31 S⟩
    · exact ⟨rt a14 S, rt a41 S⟩
  · obtain rfl | rfl | rfl | rfl : y = 0 ∨ y = 1 ∨ y = 2 ∨ y = 3 := by omega
    · exact ⟨rt a21 S, rt a12 S⟩
    · exact ⟨rt a22 S, rt a22 S⟩
    · exact ⟨rt a23 S, rt a32 S⟩
    · exact ⟨rt a24 S, rt a42 S⟩
end G83

set_option linter.all false
set_option maxRecDepth 100000
set_option maxHeartbeats 4000000
/-! k83, the plain law: the whole. -/
namespace G83
open PySem PySem.Spec PyProof.Rows L2 Dl
section
variable {T : List D} {y : D}
theorem setT (x : D) : (T ++ [y]).set T.length x = T ++ [x] := set0 T y x []
theorem drawT {u : Int} (p : PenD y) (hu : 0 < u) (hu2 : u < 1073741824) : ∃ d y', 0 ≤ d ∧ d < u ∧ PenD y' ∧ F_law_draw [.loc T.length, .int u] (T ++ [y]) = .ok (.int d) (T ++ [y']) := by
  obtain ⟨d, y', h1, h2, h3, e⟩ := C.draw (S := T ++ [y]) (n := T.length) (u := u) (at0 T y []) p hu hu2
  rw [setT] at e
  exact ⟨d, y', h1, h2, h3, e⟩
end
theorem lap {T : List D} {y : D} (p : PenD y) (a0 a1 a3 a4 a5 : Option D) :
    ∃ y' b4 b5, PenD y' ∧ l_law_1 [a0, a1, some (.loc T.length), a3, a4, a5] (T ++ [y]) = .nx [a0, a1, some (.loc T.length), a3, b4, b5] (T ++ [y']) := by
  obtain ⟨d1, y1, d10, d11, p1, e1⟩ := drawT (T := T) (u := 2) p (by omega) (by omega)
  obtain ⟨d2, y2, d20, d21, p2, e2⟩ := drawT (T := T) (u := 4) p1 (by omega) (by omega)
  obtain ⟨r1, r2⟩ := right_ok d10 d11 d20 d21 (T ++ [y2])
  refine ⟨y2, some (.int (1 + d1)), some (.int (1 + d2)), p2, ?_⟩
  unfold l_law_1
  simp [e1, e2, r1, r2, line_big]
theorem pen_turn {ns : List Int} {T : List D} (k : Nat) (a2 a3 a4 a5 : Option D) :
    ∃ b2 b3 b4 b5 y, PenD y ∧ l_law_2 [some (.scr ns), some (.int (k : Nat)), a2, a3, a4, a5] T = .nx [some (.scr ns), some (.int (k : Nat)), b2, b3, b4, b5] (T ++ [y]) := by
  have ec := C.cell ns k T
  obtain ⟨y, p, ep⟩ := C.pen (ns.getD k 0) T
  replace ec : F_law_cell [.scr ns, .int (k : Nat)] T = .ok (.int (ns.getD k 0)) T := ec
  replace ep : F_law_pen [.int (ns.getD k 0)] T = .ok (.loc T.length) (T ++ [y]) := ep
  let P : Nat → DS → List D → Prop := fun i ds U => ∃ (q : D) (c3 c4 c5 : Option D), PenD q ∧ U = T ++ [q] ∧ ds = [some (.scr ns), some (.int (k : Nat)), some (.loc T.length), c3, c4, c5]
  obtain ⟨ds', S', lp, q, c3, c4, c5, pq, rfl, rfl⟩ := for_range (g := gN 3) (b := l_law_1) (ds := [some (.scr ns), some (.int (k : Nat)), some (.loc T.length), a3, a4, a5]) (S := T ++ [y]) P 3
    ⟨y, a3, a4, a5, p, rfl, rfl⟩ (by
      rintro i hi ds U ⟨q, c3, c4, c5, pq, rfl, rfl⟩
      obtain ⟨y', b4, b5, py, e⟩ := lap pq (some (.scr ns)) (some (.int (k : Nat))) (some (.int (i : Nat))) c4 c5
      exact ⟨_, _, _, rfl, e, y', _, b4, b5, py, rfl, rfl⟩)
  have ro : rng1 [.int 3] = some (0, 3) := rng1_int (rngOk_of (by omega) (by omega))
  refine ⟨some (.loc T.length), c3, c4, c5, q, pq, ?_⟩
  unfold l_law_2
  simp [ec, ep, ev_for, ro, lp, -List.getD_eq_getElem?_getD]
theorem plain (ns : List Int) (h : ns.length ≤ 63) : ∃ S, F_law [.scr ns] [] = .ok (.bl true) S := by
  obtain ⟨n, hn, hn3⟩ : ∃ n : Nat, (if (if (3 : Int) < (ns.length : Int) then (3 : Int) else (ns.length : Int)) > 1 then (if (3 : Int) < (ns.length : Int) then (3 : Int) else (ns.length : Int)) else 1) = (n : Int) ∧ n ≤ 3 := by
    by_cases h3 : (3 : Int) < (ns.length : Int)
    · exact ⟨3, by simp [h3], by omega⟩
    · by_cases h1 : (ns.length : Int) > 1
      · exact ⟨ns.length, by simp [h3, h1], by omega⟩
      · exact ⟨1, by simp [h3, h1], by omega⟩
  let P : Nat → DS → List D → Prop := fun i ds U => ∃ (a1 a2 a3 a4 a5 : Option D), ds = [some (.scr ns), a1, a2, a3, a4, a5]
  obtain ⟨ds', S', lp, a1, a2, a3, a4, a5, rfl⟩ := for_range (g := gN 1) (b := l_law_2) (ds := [some (.scr ns), none, none, none, none, none]) (S := []) P n
    ⟨none, none, none, none, none, rfl⟩ (by
      rintro i hi ds U ⟨a1, a2, a3, a4, a5, rfl⟩
      obtain ⟨b2, b3, b4, b5, y, py, e⟩ := pen_turn (ns := ns) (T := U) i a2 a3 a4 a5
      exact ⟨_, _, _, rfl, e, _, b2, b3, b4, b5, rfl⟩)
  refine ⟨S', ?_⟩
  have ro : rng1 [.int (n : Int)] = some (0, n) := by rw [rng1_int (rngOk_of (by omega) (by omega)), Int.toNat_natCast]
  have hI : iRange rng1 (aCons (eCall opMax2 (aCons (eC (.int 1)) (aCons (eCall opMin2 (aCons (eCall opLen (aCons (eVar 0) aNil)) (aCons (eC (.int 3)) aNil))) aNil))) aNil) [some (.scr ns), none, none, none, none, none] [] = .ok (wkL (rangeD 0 n)) [] := by
    have e1 : eCall opMin2 (aCons (eCall opLen (aCons (eVar 0) aNil)) (aCons (eC (.int 3)) aNil)) [some (.scr ns), none, none, none, none, none] [] = .ok (.int (if (3 : Int) < (ns.length : Int) then (3 : Int) else (ns.length : Int))) [] := rfl
    simp only [ev_range, ev_acons, ev_call, ev_c, ev_anil, R.bind_ok] at e1 ⊢
    rw [e1]
    simp only [R.bind_ok, op_max2_]
    rw [hn, ro]
  have e : b_law [some (.scr ns), none, none, none, none, none] [] = .ret (.bl true) S' := by
    unfold b_law
    rw [ev_seq, sFor_list hI, lp]
    rfl
  show (match b_law [some (.scr ns), none, none, none, none, none] [] with
    | .nx _ S' => R.ok D.non S'
    | .ret d S' => .ok d S'
    | .exc c ns fs _ S' => .exc c ns fs S'
    | .stuck => .stuck) = _
  rw [e]
end G83

set_option Elab.async false
set_option linter.all false
set_option maxRecDepth 100000
set_option maxHeartbeats 0
namespace G83
open PySem PySem.Spec PyProof.Rows L2 Dl
def d0 : He.DefD := ⟨("is_integer", none), "is_integer", "is_integer", defArgs (top 10), defBody (top 10), defScope (top 10), [], []⟩
def d1 : He.DefD := ⟨("is_between", none), "is_between", "is_between", defArgs (top 11), defBody (top 11), defScope (top 11), [], []⟩
def d2 : He.DefD := ⟨("is_onto", none), "is_onto", "is_onto", defArgs (top 12), defBody (top 12), defScope (top 12), [], []⟩
def d3 : He.DefD := ⟨("is_table", none), "is_table", "is_table", defArgs (top 13), defBody (top 13), defScope (top 13), [], []⟩
def d4 : He.DefD := ⟨("need_table", none), "need_table", "need_table", defArgs (top 14), defBody (top 14), defScope (top 14), [], []⟩
def d5 : He.DefD := ⟨("hold_of", none), "hold_of", "hold_of", defArgs (top 15), defBody (top 15), defScope (top 15), [], []⟩
def d6 : He.DefD := ⟨("out_of", none), "out_of", "out_of", defArgs (top 16), defBody (top 16), defScope (top 16), [], []⟩
def d7 : He.DefD := ⟨("back_of", none), "back_of", "back_of", defArgs (top 17), defBody (top 17), defScope (top 17), [], []⟩
def d8 : He.DefD := ⟨("delay", none), "delay", "delay", defArgs (top 18), defBody (top 18), defScope (top 18), [], []⟩
def d9 : He.DefD := ⟨("back", none), "back", "back", defArgs (top 19), defBody (top 19), defScope (top 19), [], []⟩
def d10 : He.DefD := ⟨("is_apart", none), "is_apart", "is_apart", defArgs (top 24), defBody (top 24), defScope (top 24), [], []⟩
def d11 : He.DefD := ⟨("tables_with", none), "tables_with", "tables_with", defArgs (top 25), defBody (top 25), defScope (top 25), [], []⟩
def d12 : He.DefD := ⟨("need_kind", none), "need_kind", "need_kind", defArgs (top 26), defBody (top 26), defScope (top 26), [], []⟩
def d13 : He.DefD := ⟨("best", none), "best", "best", defArgs (top 27), defBody (top 27), defScope (top 27), [], []⟩
def d14 : He.DefD := ⟨("all_with", none), "all_with", "all_with", defArgs (top 28), defBody (top 28), defScope (top 28), [], []⟩
def d15 : He.DefD := ⟨("need_distance", none), "need_distance", "need_distance", defArgs (top 39), defBody (top 39), defScope (top 39), [], []⟩
def d16 : He.DefD := ⟨("distance_of", none), "distance_of", "distance_of", defArgs (top 40), defBody (top 40), defScope (top 40), [], []⟩
def d17 : He.DefD := ⟨("nearest_at", none), "nearest_at", "nearest_at", defArgs (top 41), defBody (top 41), defScope (top 41), [], []⟩
def d18 : He.DefD := ⟨("near", none), "near", "near", defArgs (top 42), defBody (top 42), defScope (top 42), [], []⟩
def d19 : He.DefD := ⟨("has", none), "has", "has", defArgs (top 43), defBody (top 43), defScope (top 43), [], []⟩
def d20 : He.DefD := ⟨("least_delay", none), "least_delay", "least_delay", defArgs (top 44), defBody (top 44), defScope (top 44), [], []⟩
def d21 : He.DefD := ⟨("_law_cell", none), "_law_cell", "_law_cell", defArgs (top 46), defBody (top 46), defScope (top 46), [], []⟩
def d22 : He.DefD := ⟨("_law_pen", none), "_law_pen", "_law_pen", defArgs (top 47), defBody (top 47), defScope (top 47), [], []⟩
def d23 : He.DefD := ⟨("_law_draw", none), "_law_draw", "_law_draw", defArgs (top 48), defBody (top 48), defScope (top 48), [], []⟩
def d24 : He.DefD := ⟨("_law_has", none), "_law_has", "_law_has", defArgs (top 49), defBody (top 49), defScope (top 49), [], []⟩
def d25 : He.DefD := ⟨("_law_length_right", none), "_law_length_right", "_law_length_right", defArgs (top 50), defBody (top 50), defScope (top 50), [], []⟩
def d26 : He.DefD := ⟨("_law_right", none), "_law_right", "_law_right", defArgs (top 51), defBody (top 51), defScope (top 51), [], []⟩
def d27 : He.DefD := ⟨("law", none), "law", "law", defArgs (top 52), defBody (top 52), defScope (top 52), [], []⟩
def fnl : List He.DefD := [d0, d1, d2, d3, d4, d5, d6, d7, d8, d9, d10, d11, d12, d13, d14, d15, d16, d17, d18, d19, d20, d21, d22, d23, d24, d25, d26, d27]
def fa0 : List He.Fa := [.glo "is_integer", .glo "is_between", .glo "is_onto", .glo "is_table", .glo "need_table", .glo "hold_of", .glo "out_of", .glo "back_of", .glo "delay", .glo "back", .glo "is_apart", .glo "tables_with", .glo "need_kind", .glo "best", .glo "all_with", .glo "need_distance", .glo "distance_of", .glo "nearest_at", .glo "near", .glo "has", .glo "least_delay", .glo "_law_cell", .glo "_law_pen", .glo "_law_draw", .glo "_law_has", .glo "_law_length_right", .glo "_law_right", .glo "law", .free "abs", .free "all"]
def fa1 : List He.Fa := [.free "bool", .free "enumerate", .free "int", .free "isinstance", .free "len", .free "max", .free "min", .free "range", .free "tuple", .int "FARTHEST" 500, .int "GREATEST_HOLD" 60, .int "LONGEST" 24, .int "MOST_HOLD" 8, .int "MOST_LENGTH" 4, .int "MOST_SEARCHED" 4, .int "MOST_SPREAD" 5, .int "WIDEST" 58]
def fal : List He.Fa := fa0 ++ fa1
def loose0 : List PySem.Str := ["BurstError", "NoTable", "NoHold", "NoDistance", "NoLength", "TooMany", "LONGEST", "GREATEST_HOLD", "is_integer", "is_between", "is_onto", "is_table", "need_table", "hold_of", "out_of", "back_of", "delay", "back", "MOST_LENGTH", "MOST_SPREAD", "MOST_HOLD", "is_apart", "tables_with", "need_kind", "best", "all_with", "moves", "points", "goes_on", "least_hold"]
def loose1 : List PySem.Str := ["first_table", "FARTHEST", "WIDEST", "MOST_SEARCHED", "need_distance", "distance_of", "nearest_at", "near", "has", "least_delay", "_law_cell", "_law_pen", "_law_draw", "_law_has", "_law_length_right", "_law_right"]
def loose : List PySem.Str := loose0 ++ loose1
abbrev Rw : PySem.W.OpenRow := PySem.W.OpenLaw.row PySem.Challenge.rw_burstapart_k83_whole_least_delays
abbrev hook : PySem.W.Hook := He.hookD 4 fal fnl
def obs (s : PySem.W.SharedT) : He.AlD := He.obsDG 4 fal fnl (HandSHeadRun.getT s)
theorem obs_eq (s : PySem.W.SharedT) : obs s = hook.obs s.abs := He.obsDG_eq (HandSHeadRun.getT_eq s)
theorem runs (w : World) : HandSHeadRun.RunEq Rw (PySem.W.view Rw.prog [52]) hook obs 6000 loose w := by
  intro os
  kernel_rfl
theorem facts {P : Program} {w : World} {K : PySem.W.Frag} {h : Heap} {mg : Str → Option Value} {f : Addr} (X : K.In h) (G : h.Ns mainGlobals mg) (hfa : mg ("law" : Str) = some (.ref f)) (c : He.SaysD fal fnl K) :
    ∃ fd : FuncData, (∀ (s : Shared) (v : Value), BindsTo s fd ⟨[v], []⟩ [("_law_script", v)]) ∧ ∀ base : Heap, K.In base → base.Ns mainGlobals mg → FnG P w K mg base 10 f fd ["_law_script"] (spD ⟨K, fun _ => 0, [], w⟩ 1 F_law) := by
  have B : Bl mg := ⟨He.free_ok X G (c.fact 28 (f := .free "abs") rfl), He.free_ok X G (c.fact 29 (f := .free "all") rfl), He.free_ok X G (c.fact 30 (f := .free "bool") rfl), He.free_ok X G (c.fact 31 (f := .free "enumerate") rfl), He.free_ok X G (c.fact 32 (f := .free "int") rfl), He.free_ok X G (c.fact 33 (f := .free "isinstance") rfl), He.free_ok X G (c.fact 34 (f := .free "len") rfl), He.free_ok X G (c.fact 35 (f := .free "max") rfl), He.free_ok X G (c.fact 36 (f := .free "min") rfl), He.free_ok X G (c.fact 37 (f := .free "range") rfl), He.free_ok X G (c.fact 38 (f := .free "tuple") rfl), He.int_ok X G (c.fact 39 (f := .int "FARTHEST" 500) rfl), He.int_ok X G (c.fact 40 (f := .int "GREATEST_HOLD" 60) rfl), He.int_ok X G (c.fact 41 (f := .int "LONGEST" 24) rfl), He.int_ok X G (c.fact 42 (f := .int "MOST_HOLD" 8) rfl), He.int_ok X G (c.fact 43 (f := .int "MOST_LENGTH" 4) rfl), He.int_ok X G (c.fact 44 (f := .int "MOST_SEARCHED" 4) rfl), He.int_ok X G (c.fact 45 (f := .int "MOST_SPREAD" 5) rfl), He.int_ok X G (c.fact 46 (f := .int "WIDEST" 58) rfl)⟩
  obtain ⟨fd0, D0⟩ := c.def_ 0 (d := d0) rfl
  have g0 := He.glo_ok X G (c.fact 0 (f := .glo "is_integer") rfl)
  obtain ⟨fd1, D1⟩ := c.def_ 1 (d := d1) rfl
  have g1 := He.glo_ok X G (c.fact 1 (f := .glo "is_between") rfl)
  obtain ⟨fd2, D2⟩ := c.def_ 2 (d := d2) rfl
  have g2 := He.glo_ok X G (c.fact 2 (f := .glo "is_onto") rfl)
  obtain ⟨fd3, D3⟩ := c.def_ 3 (d := d3) rfl
  have g3 := He.glo_ok X G (c.fact 3 (f := .glo "is_table") rfl)
  obtain ⟨fd4, D4⟩ := c.def_ 4 (d := d4) rfl
  have g4 := He.glo_ok X G (c.fact 4 (f := .glo "need_table") rfl)
  obtain ⟨fd5, D5⟩ := c.def_ 5 (d := d5) rfl
  have g5 := He.glo_ok X G (c.fact 5 (f := .glo "hold_of") rfl)
  obtain ⟨fd6, D6⟩ := c.def_ 6 (d := d6) rfl
  have g6 := He.glo_ok X G (c.fact 6 (f := .glo "out_of") rfl)
  obtain ⟨fd7, D7⟩ := c.def_ 7 (d := d7) rfl
  have g7 := He.glo_ok X G (c.fact 7 (f := .glo "back_of") rfl)
  obtain ⟨fd8, D8⟩ := c.def_ 8 (d := d8) rfl
  have g8 := He.glo_ok X G (c.fact 8 (f := .glo "delay") rfl)
  obtain ⟨fd9, D9⟩ := c.def_ 9 (d := d9) rfl
  have g9 := He.glo_ok X G (c.fact 9 (f := .glo "back") rfl)
  obtain ⟨fd10, D10⟩ := c.def_ 10 (d := d10) rfl
  have g10 := He.glo_ok X G (c.fact 10 (f := .glo "is_apart") rfl)
  obtain ⟨fd11, D11⟩ := c.def_ 11 (d := d11) rfl
  have g11 := He.glo_ok X G (c.fact 11 (f := .glo "tables_with") rfl)
  obtain ⟨fd12, D12⟩ := c.def_ 12 (d := d12) rfl
  have g12 := He.glo_ok X G (c.fact 12 (f := .glo "need_kind") rfl)
  obtain ⟨fd13, D13⟩ := c.def_ 13 (d := d13) rfl
  have g13 := He.glo_ok X G (c.fact 13 (f := .glo "best") rfl)
  obtain ⟨fd14, D14⟩ := c.def_ 14 (d := d14) rfl
  have g14 := He.glo_ok X G (c.fact 14 (f := .glo "all_with") rfl)
  obtain ⟨fd15, D15⟩ := c.def_ 15 (d := d15) rfl
  have g15 := He.glo_ok X G (c.fact 15 (f := .glo "need_distance") rfl)
  obtain ⟨fd16, D16⟩ := c.def_ 16 (d := d16) rfl
  have g16 := He.glo_ok X G (c.fact 16 (f := .glo "distance_of") rfl)
  obtain ⟨fd17, D17⟩ := c.def_ 17 (d := d17) rfl
  have g17 := He.glo_ok X G (c.fact 17 (f := .glo "nearest_at") rfl)
  obtain ⟨fd18, D18⟩ := c.def_ 18 (d := d18) rfl
  have g18 := He.glo_ok X G (c.fact 18 (f := .glo "near") rfl)
  obtain ⟨fd19, D19⟩ := c.def_ 19 (d := d19) rfl
  have g19 := He.glo_ok X G (c.fact 19 (f := .glo "has") rfl)
  obtain ⟨fd20, D20⟩ := c.def_ 20 (d := d20) rfl
  have g20 := He.glo_ok X G (c.fact 20 (f := .glo "least_delay") rfl)
  obtain ⟨fd21, D21⟩ := c.def_ 21 (d := d21) rfl
  have g21 := He.glo_ok X G (c.fact 21 (f := .glo "_law_cell") rfl)
  obtain ⟨fd22, D22⟩ := c.def_ 22 (d := d22) rfl
  have g22 := He.glo_ok X G (c.fact 22 (f := .glo "_law_pen") rfl)
  obtain ⟨fd23, D23⟩ := c.def_ 23 (d := d23) rfl
  have g23 := He.glo_ok X G (c.fact 23 (f := .glo "_law_draw") rfl)
  obtain ⟨fd24, D24⟩ := c.def_ 24 (d := d24) rfl
  have g24 := He.glo_ok X G (c.fact 24 (f := .glo "_law_has") rfl)
  obtain ⟨fd25, D25⟩ := c.def_ 25 (d := d25) rfl
  have g25 := He.glo_ok X G (c.fact 25 (f := .glo "_law_length_right") rfl)
  obtain ⟨fd26, D26⟩ := c.def_ 26 (d := d26) rfl
  have g26 := He.glo_ok X G (c.fact 26 (f := .glo "_law_right") rfl)
  obtain ⟨fd27, D27⟩ := c.def_ 27 (d := d27) rfl
  have g27 := He.glo_ok X G (c.fact 27 (f := .glo "law") rfl)
  cases hfa.symm.trans g27
  have b := FunD.bindsA (ps := ["_law_script"]) D27 fun _ _ _ _ _ _ us hl => match us, hl with | [_], _ => rfl
  refine ⟨fd27, fun s v => b s [v] rfl, fun base _ _ => ?_⟩
  have G_is_integer := (ok_is_integer (P := P) (w := w) (base := base) (cm := fun _ => 0) B D0 g0 ).pure
  have G_is_between := (ok_is_between (P := P) (w := w) (base := base) (cm := fun _ => 0) B D1 g1 G_is_integer).pure
  have G_is_onto := (ok_is_onto (P := P) (w := w) (base := base) (cm := fun _ => 0) B D2 g2 ).pure
  have G_is_table := (ok_is_table (P := P) (w := w) (base := base) (cm := fun _ => 0) B D3 g3 G_is_between G_is_onto).pure
  have G_need_table := (ok_need_table (P := P) (w := w) (base := base) (cm := fun _ => 0) B D4 g4 G_is_table).pure
  have G_hold_of := (ok_hold_of (P := P) (w := w) (base := base) (cm := fun _ => 0) B D5 g5 ).pure
  have G_out_of := (ok_out_of (P := P) (w := w) (base := base) (cm := fun _ => 0) B D6 g6 G_hold_of).pure
  have G_back_of := (ok_back_of (P := P) (w := w) (base := base) (cm := fun _ => 0) B D7 g7 ).pure
  have G_delay := (ok_delay (P := P) (w := w) (base := base) (cm := fun _ => 0) B D8 g8 G_need_table).pure
  have G_back := (ok_back (P := P) (w := w) (base := base) (cm := fun _ => 0) B D9 g9 G_back_of G_need_table).pure
  have G_is_apart := (ok_is_apart (P := P) (w := w) (base := base) (cm := fun _ => 0) B D10 g10 ).pure
  have G_tables_with := (ok_tables_with (P := P) (w := w) (base := base) (cm := fun _ => 0) B D11 g11 G_is_apart).pure
  have G_need_kind := (ok_need_kind (P := P) (w := w) (base := base) (cm := fun _ => 0) B D12 g12 G_is_between).pure
  have G_best := (ok_best (P := P) (w := w) (base := base) (cm := fun _ => 0) B D13 g13 G_need_kind G_tables_with).pure
  have G_all_with := (ok_all_with (P := P) (w := w) (base := base) (cm := fun _ => 0) B D14 g14 G_is_between G_need_kind G_tables_with).pure
  have G_need_distance := (ok_need_distance (P := P) (w := w) (base := base) (cm := fun _ => 0) B D15 g15 G_is_between).pure
  have G_distance_of := (ok_distance_of (P := P) (w := w) (base := base) (cm := fun _ => 0) B D16 g16 G_out_of).pure
  have G_nearest_at := (ok_nearest_at (P := P) (w := w) (base := base) (cm := fun _ => 0) B D17 g17 G_distance_of).pure
  have G_near := (ok_near (P := P) (w := w) (base := base) (cm := fun _ => 0) B D18 g18 G_nearest_at G_need_distance G_need_table).pure
  have G_has := (ok_has (P := P) (w := w) (base := base) (cm := fun _ => 0) B D19 g19 G_near G_need_distance G_need_table).pure
  have G_least_delay := (ok_least_delay (P := P) (w := w) (base := base) (cm := fun _ => 0) B D20 g20 G_need_distance).pure
  have G__law_cell := (ok_law_cell (P := P) (w := w) (base := base) (cm := fun _ => 0) B D21 g21 )
  have G__law_pen := (ok_law_pen (P := P) (w := w) (base := base) (cm := fun _ => 0) B D22 g22 )
  have G__law_draw := (ok_law_draw (P := P) (w := w) (base := base) (cm := fun _ => 0) B D23 g23 )
  have G__law_has := (ok_law_has (P := P) (w := w) (base := base) (cm := fun _ => 0) B D24 g24 G_delay G_has G_is_table).pure
  have G__law_length_right := (ok_law_length_right (P := P) (w := w) (base := base) (cm := fun _ => 0) B D25 g25 G__law_has G_all_with G_best).pure
  have G__law_right := (ok_law_right (P := P) (w := w) (base := base) (cm := fun _ => 0) B D26 g26 G__law_has G__law_length_right G_back G_least_delay).pure
  exact fng_law B D27 G__law_cell G__law_draw G__law_pen G__law_right
end G83
open PySem PySem.W PySem.Calls PyProof.Rows
theorem PySem.Challenge.cw_burstapart_k83_whole_least_delays_holds : PySem.Challenge.rw_burstapart_k83_whole_least_delays.Holds := by
  w_on; o_law
  refine HandSHeadRun.head_any (r := OpenLaw.row PySem.Challenge.rw_burstapart_k83_whole_least_delays) (q := view (OpenLaw.row PySem.Challenge.rw_burstapart_k83_whole_least_delays).prog [52]) (H := G83.hook) (ob := G83.obs) (M := 6000) (loose := G83.loose)
    (d := HandSHeadRun.topDef (OpenLaw.row PySem.Challenge.rw_burstapart_k83_whole_least_delays).prog 52) (kwd := []) G83.obs_eq (by kernel_rfl) (fun s => by kernel_rfl) G83.runs (by kernel_rfl) (by kernel_rfl) (by kernel_rfl) (by rfl)
    (by first | assumption | decide +kernel) (by decide +kernel) ⟨rfl, rfl, rfl, rfl, rfl, by decide +kernel⟩ ?hw ?hc
  case hw => w_witness2
  case hc =>
    refine Dl.walk_ofD (l := PySem.Challenge.rw_burstapart_k83_whole_least_delays) (n := 63) (k := 10) (x := "_law_script") (F := G83.F_law) rfl (by decide) (by kernel_rfl) ⟨rfl, by decide, by decide⟩ ?F (fun ns hl => G83.plain ns hl)
    intro w mg fa h Y G hmg0
    obtain ⟨K, KX, c⟩ := Y
    have hmg : mg ("law" : PySem.Str) = some (.ref fa) := by
      have e : (HandSHeadRun.topDef (OpenLaw.row PySem.Challenge.rw_burstapart_k83_whole_least_delays).prog 52).name = ("law" : PySem.Str) := by kernel_rfl
      rw [← e]
      exact hmg0
    obtain ⟨fd, hb, hF⟩ := G83.facts (P := (PySem.Challenge.rw_burstapart_k83_whole_least_delays).prog) (w := w) KX G hmg c
    exact ⟨K, fun _ => 0, fd, KX, hb, hF⟩

