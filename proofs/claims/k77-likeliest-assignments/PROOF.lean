import PyProof.Rows.All
import Wide.All
import OpenK.AllK
import Wide.FinOn
import HandS.ForMost
import HandS.Exc
import HandS.TryOnly
import HandS.ExcOwn
import HandS.WordsExc
import HandS.Gcd
import HandS.Wide
import HandS.WideBits
import HandS.IsInst
import KE.KDictKeyed
import KE.KDictCopyH
import HandS.Zip
import HandS.TupLe
import HandS.SortInts
import KE.KTupSum
import HandS.More
import HandS.Dict
import KE.SortData
import PySem.Challenge.RW_odds_k77_likeliest_assignments
set_option Elab.async false
set_option linter.all false
set_option maxRecDepth 100000
set_option maxHeartbeats 4000000
/-! AL: a logic of abstract states over the hand layer: slots hold pure data or pointers, resources are listed apart. -/
namespace AL
open PySem L2

/-! ### dict keys that are data: whole numbers, truth values, tuples of these -/
mutual
def nk : PyData → NestedKey
  | .none => .none
  | .bool b => .num (if b then 1 else 0)
  | .int i => .num i
  | .str s => .text s
  | .tuple xs => .tup (nkL xs)
  | .list _ => .none
  | .dict _ => .none
def nkL : List PyData → List NestedKey
  | [] => []
  | x :: xs => nk x :: nkL xs
end
mutual
/-- hash(k) of a key without texts -/
def h0 : PyData → Int
  | .none => reduceHash 0xFCA86420
  | .bool b => hashInt (if b then 1 else 0)
  | .int i => hashInt i
  | .tuple xs => reduceHash (Builtin.Tuple.tupleHashOf (h0L xs))
  | _ => 0
def h0L : List PyData → List Int
  | [] => []
  | x :: xs => h0 x :: h0L xs
end
mutual
def keyb : PyData → Bool
  | .none => true
  | .bool _ => true
  | .int _ => true
  | .tuple xs => keybL xs
  | _ => false
def keybL : List PyData → Bool
  | [] => true
  | x :: xs => keyb x && keybL xs
end
/-- the sort of a key: a whole number, a truth value, a tuple; 0: none of these -/
def srt : PyData → Nat
  | .int _ => 1
  | .bool _ => 2
  | .tuple xs => if keybL xs && decide ((nk (.tuple xs)).depth ≤ 8) then 3 else 0
  | _ => 0
/-- a dict at a with these entries -/
def xdict (a : Addr) (es : List DictEntry) : HO := .ext fun h => ∃ o arr ep, h.get? a = some o ∧ o.ExactDict ∧ o.data = .dict arr ep ∧ arr.toList = es
/-! ### abstract values, resources -/
/-- an item of a tuple that holds pointers -/
inductive A0 where
  | d (x : PyData)
  | ptr (a : Addr)
/-- pure data, or a pointer to a resource -/
inductive A where
  | d (x : PyData)
  | ptr (a : Addr)
  | ty (n : String)
  /-- a tuple of ints and texts that was made here: a dict's key -/
  | tk (ks : List Key)
  /-- a tuple that holds pointers -/
  | tp (xs : List A0)
  /-- a dict whose keys are data, that nobody writes any more -/
  | fx (kvs : List (PyData × A0))
abbrev A.i (n : Int) : A := .d (.int n)
abbrev A.b (k : Bool) : A := .d (.bool k)
abbrev A.s (x : Str) : A := .d (.str x)
abbrev A.n : A := .d .none
abbrev A.t (ds : List PyData) : A := .d (.tuple ds)
abbrev A.l (ds : List PyData) : A := .d (.list ds)

def A0.up : A0 → A
  | .d x => .d x
  | .ptr a => .ptr a
def Av0 (K : PySem.W.Frag) (P : Hp) (v : V) : A0 → Prop
  | .d x => Dp K P v x
  | .ptr a => v = .ref a
def XE0 (K : PySem.W.Frag) (P : Hp) (e : DictEntry) (kv : PyData × A0) : Prop := e.hash = h0 kv.1 ∧ (∃ v, RelV v e.key ∧ Dp K P v kv.1) ∧ ∃ w, RelV w e.val ∧ Av0 K P w kv.2
structure XDs0 (K : PySem.W.Frag) (P : Hp) (es : List DictEntry) (kvs : List (PyData × A0)) : Prop where
  rel : Paired (XE0 K P) es kvs
  len : kvs.length ≤ sizeLine
  nd : (kvs.map fun x => nk x.1).Nodup
  srt : ∃ c, c ≠ 0 ∧ ∀ kv ∈ kvs, srt kv.1 = c
def Av (K : PySem.W.Frag) (P : Hp) (v : V) : A → Prop
  | .d x => Dp K P v x
  | .ptr a => v = .ref a
  | .ty n => v = .ty n
  | .tk ks => ∃ t, v = .ref t ∧ P t = some (.tup (ks.map kV))
  | .tp xs => ∃ t vs, v = .ref t ∧ P t = some (.tup vs) ∧ Paired (Av0 K P) vs xs
  | .fx kvs => ∃ p od es, v = .ref p ∧ P p = some (.frz od (xdict p es)) ∧ (p == sysModules) = false ∧ XDs0 K P es kvs

def XE (K : PySem.W.Frag) (P : Hp) (e : DictEntry) (kv : PyData × A) : Prop := e.hash = h0 kv.1 ∧ (∃ v, RelV v e.key ∧ Dp K P v kv.1) ∧ ∃ w, RelV w e.val ∧ Av K P w kv.2
structure XDs (K : PySem.W.Frag) (P : Hp) (es : List DictEntry) (kvs : List (PyData × A)) : Prop where
  rel : Paired (XE K P) es kvs
  len : kvs.length ≤ sizeLine
  nd : (kvs.map fun x => nk x.1).Nodup
  srt : ∃ c, c ≠ 0 ∧ ∀ kv ∈ kvs, srt kv.1 = c
inductive Res where
  | lst (xs : List A)
  | dX (kvs : List (PyData × A))
  | dK (kvs : List (Key × A))
  | dT (kvs : List (List Key × A))
  | ins (C : Addr) (fs : List (Str × A))
abbrev RL := List (Addr × Res)
abbrev PAv (K : PySem.W.Frag) (P : Hp) : List V → List A → Prop := Paired (Av K P)
abbrev PKv {κ : Type} (K : PySem.W.Frag) (P : Hp) : List (κ × V) → List (κ × A) → Prop := Paired fun p q => p.1 = q.1 ∧ Av K P p.2 q.2
def ResAt (K : PySem.W.Frag) (P H : Hp) (a : Addr) : Res → Prop
  | .lst xs => ∃ vs, H a = some (.lst vs) ∧ PAv K P vs xs
  | .dK kvs => ∃ ws, H a = some (.dK ws) ∧ PKv K P ws kvs
  | .dT kvs => ∃ ws, H a = some (.dT ws) ∧ PKv K P ws kvs
  | .ins C fs => ∃ dx ws, H a = some (.ins C dx ws) ∧ PKv K P ws fs
  | .dX kvs => ∃ es, H a = some (xdict a es) ∧ (a == sysModules) = false ∧ XDs K P es kvs

theorem sqT_mono {K : PySem.W.Frag} {H H' : Hp} {a : Addr} {xs : List V} (e : Same H H') (h : SqT K H a xs) : SqT K H' a xs := by
  rcases h with (h | ⟨o, h⟩) | h
  · exact .inl (.inl (e _ _ h))
  · exact .inl (.inr ⟨o, e _ _ h⟩)
  · exact .inr h
section
variable {K : PySem.W.Frag} {P P' H H' : Hp}
mutual
theorem dp_mono (e : Same P P') : ∀ {v : V} {x : PyData}, Dp K P v x → Dp K P' v x
  | _, _, .non => .non
  | _, _, .bl b => .bl b
  | _, _, .int i => .int i
  | _, _, .str s => .str s
  | _, _, .lst h a => .lst (e.seq h) (dpAll_mono e a)
  | _, _, .tup h a => .tup (sqT_mono e h) (dpAll_mono e a)
theorem dpAll_mono (e : Same P P') : ∀ {vs : List V} {xs : List PyData}, DpAll K P vs xs → DpAll K P' vs xs
  | _, _, .nil => .nil
  | _, _, .cons h a => .cons (dp_mono e h) (dpAll_mono e a)
end
theorem av0_mono (e : Same P P') {v : V} {x : A0} (h : Av0 K P v x) : Av0 K P' v x := by
  cases x with
  | d x => exact dp_mono e h
  | ptr a => exact h
theorem xds0_mono (e : Same P P') {es : List DictEntry} {kvs : List (PyData × A0)} (h : XDs0 K P es kvs) : XDs0 K P' es kvs :=
  ⟨Paired.mapP h.rel fun _ _ ⟨h1, ⟨v, h2, h3⟩, w, h4, h5⟩ => ⟨h1, ⟨v, h2, dp_mono e h3⟩, w, h4, av0_mono e h5⟩, h.len, h.nd, h.srt⟩
theorem av_mono (e : Same P P') {v : V} {x : A} (h : Av K P v x) : Av K P' v x := by
  cases x with
  | d x => exact dp_mono e h
  | ptr a => exact h
  | ty n => exact h
  | tk ks => obtain ⟨t, e1, e2⟩ := h; exact ⟨t, e1, e _ _ e2⟩
  | tp xs => obtain ⟨t, vs, e1, e2, e3⟩ := h; exact ⟨t, vs, e1, e _ _ e2, Paired.mapP e3 fun _ _ q => av0_mono e q⟩
  | fx kvs => obtain ⟨p, od, es, e1, e2, e3, e4⟩ := h; exact ⟨p, od, es, e1, e _ _ e2, e3, xds0_mono e e4⟩
theorem pav_mono (e : Same P P') {vs : List V} {xs : List A} (h : PAv K P vs xs) : PAv K P' vs xs := Paired.mapP h fun _ _ q => av_mono e q
theorem pkv_mono {κ : Type} (e : Same P P') {vs : List (κ × V)} {xs : List (κ × A)} (h : PKv K P vs xs) : PKv K P' vs xs := Paired.mapP h fun _ _ q => ⟨q.1, av_mono e q.2⟩
theorem xds_mono (e : Same P P') {es : List DictEntry} {kvs : List (PyData × A)} (h : XDs K P es kvs) : XDs K P' es kvs :=
  ⟨Paired.mapP h.rel fun _ _ ⟨h1, ⟨v, h2, h3⟩, w, h4, h5⟩ => ⟨h1, ⟨v, h2, dp_mono e h3⟩, w, h4, av_mono e h5⟩, h.len, h.nd, h.srt⟩
theorem res_mono (e : Same P P') {a : Addr} {r : Res} (k : ∀ o, H a = some o → H' a = some o) (h : ResAt K P H a r) : ResAt K P' H' a r := by
  cases r with
  | lst xs => obtain ⟨vs, h1, h2⟩ := h; exact ⟨vs, k _ h1, pav_mono e h2⟩
  | dK xs => obtain ⟨vs, h1, h2⟩ := h; exact ⟨vs, k _ h1, pkv_mono e h2⟩
  | dT xs => obtain ⟨vs, h1, h2⟩ := h; exact ⟨vs, k _ h1, pkv_mono e h2⟩
  | ins C fs => obtain ⟨dx, vs, h1, h2⟩ := h; exact ⟨dx, vs, k _ h1, pkv_mono e h2⟩
  | dX xs => obtain ⟨es, h1, h2, h3⟩ := h; exact ⟨es, k _ h1, h2, xds_mono e h3⟩
theorem res_some {a : Addr} {r : Res} (h : ResAt K P H a r) : ∃ o, H a = some o := by
  cases r with
  | lst xs => obtain ⟨vs, h1, h2⟩ := h; exact ⟨_, h1⟩
  | dK xs => obtain ⟨vs, h1, h2⟩ := h; exact ⟨_, h1⟩
  | dT xs => obtain ⟨vs, h1, h2⟩ := h; exact ⟨_, h1⟩
  | ins C fs => obtain ⟨dx, vs, h1, h2⟩ := h; exact ⟨_, h1⟩
  | dX xs => obtain ⟨es, h1, h2⟩ := h; exact ⟨_, h1⟩
end

abbrev dom (R : RL) : List Addr := R.map (·.1)
theorem mem_dom {R : RL} {a : Addr} {r : Res} (h : (a, r) ∈ R) : a ∈ dom R := List.mem_map.mpr ⟨_, h, rfl⟩
/-- the world: P the pure part of the heap H, R what may change -/
structure Wd (K : PySem.W.Frag) (R : RL) (P H : Hp) : Prop where
  sub : Same P H
  off : ∀ a, a ∈ dom R → P a = none
  has : ∀ a r, (a, r) ∈ R → ResAt K P H a r
  nd : (dom R).Nodup
/-- a step -/
structure Stp (R R' : RL) (P H P' H' : Hp) : Prop where
  ex : Same P P'
  fr : ∀ a o, H a = some o → a ∉ dom R → H' a = some o
  nw : ∀ a o, P' a = some o → P a = some o ∨ H a = none ∨ a ∈ dom R
  gr : ∀ a, a ∈ dom R' → a ∈ dom R ∨ H a = none
theorem Stp.refl {R : RL} {P H : Hp} : Stp R R P H P H := ⟨Same.refl _, fun _ _ h _ => h, fun _ _ h => .inl h, fun _ h => .inl h⟩
theorem Stp.trans {R R1 R2 : RL} {P H P1 H1 P2 H2 : Hp} (x : Stp R R1 P H P1 H1) (y : Stp R1 R2 P1 H1 P2 H2) : Stp R R2 P H P2 H2 := by
  have back : ∀ a, H1 a = none → H a = none ∨ a ∈ dom R := fun a h => by
    by_cases m : a ∈ dom R
    · exact .inr m
    · cases q : H a with
      | none => exact .inl rfl
      | some o => rw [x.fr a o q m] at h; cases h
  refine ⟨x.ex.trans y.ex, fun a o h m => ?_, fun a o h => ?_, fun a h => ?_⟩
  · refine y.fr a o (x.fr a o h m) fun z => ?_
    rcases x.gr a z with q | q
    · exact m q
    · rw [h] at q; cases q
  · rcases y.nw a o h with q | q | q
    · exact x.nw a o q
    · exact .inr (back a q)
    · exact (x.gr a q).elim (fun z => .inr (.inr z)) fun z => .inr (.inl z)
  · rcases y.gr a h with q | q
    · exact x.gr a q
    · exact (back a q).elim .inr .inl

/-! ### choosing a resource -/
inductive Sel : RL → Addr → Res → (Res → RL) → Prop
  | here {R : RL} {a : Addr} {r : Res} : Sel ((a, r) :: R) a r (fun r' => (a, r') :: R)
  | there {x : Addr × Res} {R : RL} {a : Addr} {r : Res} {U : Res → RL} : Sel R a r U → Sel (x :: R) a r (fun r' => x :: U r')
theorem Sel.mem {R : RL} {a : Addr} {r : Res} {U : Res → RL} (h : Sel R a r U) : (a, r) ∈ R := by
  induction h with
  | here => exact List.mem_cons_self
  | there _ ih => exact List.mem_cons_of_mem _ ih
theorem Sel.dom {R : RL} {a : Addr} {r : Res} {U : Res → RL} (h : Sel R a r U) (r' : Res) : dom (U r') = dom R := by
  induction h with
  | here => rfl
  | there _ ih => show _ :: _ = _ :: _; exact congrArg _ ih
theorem Sel.of {R : RL} {a : Addr} {r : Res} {U : Res → RL} (h : Sel R a r U) (nd : (AL.dom R).Nodup) {r' : Res} {b : Addr} {s : Res} (m : (b, s) ∈ U r') : (b = a ∧ s = r') ∨ (b ≠ a ∧ (b, s) ∈ R) := by
  induction h with
  | here =>
    rename_i R a r
    rcases List.mem_cons.mp m with e | m2
    · cases e; exact .inl ⟨rfl, rfl⟩
    · refine .inr ⟨fun z => ?_, List.mem_cons_of_mem _ m2⟩
      rw [z] at m2
      exact (List.nodup_cons.mp nd).1 (mem_dom m2)
  | there h ih =>
    rename_i x R a r U
    rcases List.mem_cons.mp m with e | m
    · refine .inr ⟨fun z => ?_, by rw [e]; exact List.mem_cons_self⟩
      subst z
      have := mem_dom h.mem
      rw [← e] at nd
      exact (List.nodup_cons.mp nd).1 this
    · rcases ih (List.nodup_cons.mp nd).2 m with q | q
      · exact .inl q
      · exact .inr ⟨q.1, List.mem_cons_of_mem _ q.2⟩
section
variable {K : PySem.W.Frag} {R R' : RL} {P H : Hp} {a p : Addr} {r : Res} {U : Res → RL} {o : HO}
theorem Wd.get (w : Wd K R P H) (s : Sel R a r U) : ResAt K P H a r := w.has a r s.mem
theorem Wd.offS (w : Wd K R P H) (s : Sel R a r U) : P a = none := w.off a (mem_dom s.mem)
/-- a resource is written -/
theorem Wd.put (w : Wd K R P H) (s : Sel R a r U) {r' : Res} (h : ResAt K P (upd H a o) a r') : Wd K (U r') P (upd H a o) := by
  refine ⟨fun b u e => ?_, fun b m => ?_, fun b t m => ?_, by rw [s.dom]; exact w.nd⟩
  · have ne : b ≠ a := fun z => by subst z; rw [w.offS s] at e; cases e
    rw [upd_ne ne]; exact w.sub b u e
  · rw [s.dom] at m; exact w.off b m
  · rcases s.of w.nd m with ⟨rfl, rfl⟩ | ⟨ne, m⟩
    · exact h
    · exact res_mono (Same.refl _) (fun u e => by rw [upd_ne ne]; exact e) (w.has b t m)
theorem stp_put (w : Wd K R P H) (s : Sel R a r U) {r' : Res} : Stp R (U r') P H P (upd H a o) :=
  ⟨Same.refl _, fun b u e m => by rw [upd_ne (fun z => m (by rw [z]; exact mem_dom s.mem))]; exact e, fun _ _ e => .inl e, fun b m => by rw [s.dom] at m; exact .inl m⟩
/-- new pure data -/
theorem Wd.pure (w : Wd K R P H) (hp : H p = none) : Wd K R (upd P p o) (upd H p o) := by
  have pd : p ∉ dom R := fun m => by
    obtain ⟨⟨b, t⟩, hm, e⟩ := List.mem_map.mp m
    obtain rfl : b = p := e
    obtain ⟨u, q⟩ := res_some (w.has _ _ hm)
    rw [q] at hp; cases hp
  have pp : P p = none := by
    cases q : P p with
    | none => rfl
    | some u => rw [w.sub p u q] at hp; cases hp
  refine ⟨fun b u e => ?_, fun b m => ?_, fun b t m => ?_, w.nd⟩
  · by_cases z : b = p
    · subst z; rw [upd_same] at e ⊢; exact e
    · rw [upd_ne z] at e ⊢; exact w.sub b u e
  · rw [upd_ne (fun z => pd (by rw [← z]; exact m))]; exact w.off b m
  · have ne : b ≠ p := fun z => pd (by rw [← z]; exact mem_dom m)
    exact res_mono (Same_upd pp) (fun u e => by rw [upd_ne ne]; exact e) (w.has b t m)
where Same_upd {P : Hp} {p : Addr} {o : HO} (h : P p = none) : Same P (upd P p o) := fun b u e => by rw [upd_ne (ne_of_none e h)]; exact e
theorem Wd.pnone (w : Wd K R P H) (hp : H p = none) : P p = none := by
  cases q : P p with
  | none => rfl
  | some u => rw [w.sub p u q] at hp; cases hp
theorem stp_pure (w : Wd K R P H) (hp : H p = none) : Stp R R P H (upd P p o) (upd H p o) := by
  refine ⟨Wd.pure.Same_upd (w.pnone hp), fun b u e _ => by rw [upd_ne (ne_of_none e hp)]; exact e, fun b u e => ?_, fun _ m => .inl m⟩
  by_cases z : b = p
  · subst z; exact .inr (.inl hp)
  · rw [upd_ne z] at e; exact .inl e
/-- a new resource -/
theorem Wd.new (w : Wd K R P H) (hp : H p = none) {r' : Res} (h : ResAt K P (upd H p o) p r') : Wd K ((p, r') :: R) P (upd H p o) := by
  have pd : ∀ b ∈ dom R, b ≠ p := fun b m z => by
    obtain ⟨⟨b', t⟩, hm, e⟩ := List.mem_map.mp m
    obtain rfl : b' = b := e
    obtain ⟨u, q⟩ := res_some (w.has _ _ hm)
    rw [z, hp] at q; cases q
  refine ⟨fun b u e => ?_, fun b m => ?_, fun b t m => ?_, List.nodup_cons.mpr ⟨fun m => pd p m rfl, w.nd⟩⟩
  · have ne : b ≠ p := fun z => by subst z; rw [w.pnone hp] at e; cases e
    rw [upd_ne ne]; exact w.sub b u e
  · rcases List.mem_cons.mp m with e | m
    · rw [e]; exact w.pnone hp
    · exact w.off b m
  · rcases List.mem_cons.mp m with e | m
    · cases e; exact h
    · exact res_mono (Same.refl _) (fun u e => by rw [upd_ne (pd b (mem_dom m))]; exact e) (w.has b t m)
theorem stp_new (hp : H p = none) {r' : Res} : Stp R ((p, r') :: R) P H P (upd H p o) :=
  ⟨Same.refl _, fun b u e _ => by rw [upd_ne (ne_of_none e hp)]; exact e, fun _ _ e => .inl e, fun b m => (List.mem_cons.mp m).elim (fun z => .inr (by rw [z]; exact hp)) .inl⟩
end

/-! ### dropping and reordering resources -/
/-- every resource of R' stands in R -/
structure Le (R R' : RL) : Prop where
  sub : ∀ x, x ∈ R' → x ∈ R
  nd : (dom R).Nodup → (dom R').Nodup
theorem Le.refl (R : RL) : Le R R := ⟨fun _ h => h, fun h => h⟩
theorem Le.nil (R : RL) : Le R [] := ⟨fun _ h => absurd h (by simp), fun _ => List.nodup_nil⟩
theorem Le.trans {R R1 R2 : RL} (a : Le R R1) (b : Le R1 R2) : Le R R2 := ⟨fun x h => a.sub x (b.sub x h), fun h => b.nd (a.nd h)⟩
/-- take one out -/
inductive Rem : RL → Addr → Res → RL → Prop
  | here {R : RL} {a : Addr} {r : Res} : Rem ((a, r) :: R) a r R
  | there {x : Addr × Res} {R R' : RL} {a : Addr} {r : Res} : Rem R a r R' → Rem (x :: R) a r (x :: R')
theorem Rem.mem {R R' : RL} {a : Addr} {r : Res} (h : Rem R a r R') : ∀ x, x ∈ R ↔ x = (a, r) ∨ x ∈ R' := by
  induction h with
  | here => intro x; exact List.mem_cons
  | there h ih =>
    intro x
    rw [List.mem_cons, List.mem_cons, ih x]
    constructor
    · rintro (q | q | q)
      · exact .inr (.inl q)
      · exact .inl q
      · exact .inr (.inr q)
    · rintro (q | q | q)
      · exact .inr (.inl q)
      · exact .inl q
      · exact .inr (.inr q)
theorem Rem.nd {R R' : RL} {a : Addr} {r : Res} (h : Rem R a r R') : (dom R).Nodup → a ∉ dom R' ∧ (dom R').Nodup := by
  induction h with
  | here => intro n; exact List.nodup_cons.mp n
  | there h ih =>
    rename_i x R R' a r
    intro n
    obtain ⟨n1, n2⟩ := List.nodup_cons.mp n
    obtain ⟨i1, i2⟩ := ih n2
    have ha : a ∈ dom R := mem_dom ((h.mem _).mpr (.inl rfl))
    refine ⟨fun m => ?_, List.nodup_cons.mpr ⟨fun m => n1 ?_, i2⟩⟩
    · rcases List.mem_cons.mp m with e | m
      · exact n1 (by rw [← e]; exact ha)
      · exact i1 m
    · obtain ⟨y, hy, e⟩ := List.mem_map.mp m
      exact List.mem_map.mpr ⟨y, (h.mem y).mpr (.inr hy), e⟩
theorem Le.cons {R R1 R' : RL} {a : Addr} {r : Res} (h : Rem R a r R1) (q : Le R1 R') : Le R ((a, r) :: R') := by
  refine ⟨fun x m => ?_, fun n => ?_⟩
  · rcases List.mem_cons.mp m with e | m
    · exact (h.mem x).mpr (.inl e)
    · exact (h.mem x).mpr (.inr (q.sub x m))
  · obtain ⟨n1, n2⟩ := h.nd n
    refine List.nodup_cons.mpr ⟨fun m => n1 ?_, q.nd n2⟩
    obtain ⟨y, hy, e⟩ := List.mem_map.mp m
    exact List.mem_map.mpr ⟨y, q.sub y hy, e⟩
theorem Wd.le {K : PySem.W.Frag} {R R' : RL} {P H : Hp} (w : Wd K R P H) (l : Le R R') : Wd K R' P H :=
  ⟨w.sub, fun a m => by
    obtain ⟨y, hy, e⟩ := List.mem_map.mp m
    exact w.off a (List.mem_map.mpr ⟨y, l.sub y hy, e⟩), fun a r m => w.has a r (l.sub _ m), l.nd w.nd⟩
theorem Le.dom {R R' : RL} (l : Le R R') {a : Addr} (m : a ∈ AL.dom R') : a ∈ AL.dom R := by
  obtain ⟨y, hy, e⟩ := List.mem_map.mp m
  exact List.mem_map.mpr ⟨y, l.sub y hy, e⟩
theorem Stp.le {R R1 R' : RL} {P H P' H' : Hp} (x : Stp R R1 P H P' H') (l : Le R1 R') : Stp R R' P H P' H' := ⟨x.ex, x.fr, x.nw, fun a m => x.gr a (l.dom m)⟩
/-- a step of a part is a step of the whole -/
theorem Stp.wide {R0 R R' : RL} {P H P' H' : Hp} (x : Stp R0 R' P H P' H') (l : Le R R0) : Stp R R' P H P' H' :=
  ⟨x.ex, fun a o e m => x.fr a o e fun z => m (l.dom z), fun a o e => (x.nw a o e).imp id fun z => z.imp id fun z => l.dom z, fun a m => (x.gr a m).imp (fun z => l.dom z) id⟩
end AL

namespace AL
open PySem L2

/-! ### the widest readings -/
def wE (X : Cx) (e : Expr) : TE := fun σ H Q => ∀ pins s, Inv X pins σ H s → wpAny (model X.prog X.w) X.A (eval e X.env) (EP X pins σ Q) X.xe s
def wT (X : Cx) (e : Expr) : TT := fun σ H Q => ∀ pins s, Inv X pins σ H s → wpAny (model X.prog X.w) X.A (isTrue e X.env (eval e X.env)) (TP X pins σ Q) X.xe s
def wW (X : Cx) (e : Expr) : TT := fun σ H Q => ∀ whole pins s, Inv X pins σ H s → wpAny (model X.prog X.w) X.A (isTrue e X.env whole) (TP X pins σ Q) X.xe s
def wA (X : Cx) (es : List Expr) : TA := fun σ H Q => ∀ pos pins s, Inv X pins σ H s → wpAny (model X.prog X.w) X.A (spliced (backTo pos (starEach es X.env))) (AP X pins σ Q) X.xe s
def wS (X : Cx) (st : Stmt) : TS := fun D σ H => ∀ pins s, Inv X pins σ H s → wpAny (model X.prog X.w) X.A (exec st X.env) (SP X pins D) X.xe s
def wSs (X : Cx) (st : List Stmt) : TS := fun D σ H => ∀ pins s, Inv X pins σ H s → wpAny (model X.prog X.w) X.A (execs st X.env) (SP X pins D) X.xe s
def wG (X : Cx) (tg : Expr) : TG := fun v σ H Q => ∀ pins s u, Inv X pins σ H s → RelV v u →
    wpAny (model X.prog X.w) X.A (assign tg X.env u) (fun _ s' => ∃ σ' H', Inv X pins σ' H' s' ∧ Q σ' H') X.xe s
def wGs (X : Cx) (ts : List Expr) : TGs := fun vs σ H Q => ∀ pins s us, Inv X pins σ H s → Vals vs us →
    wpAny (model X.prog X.w) X.A (assignInOrder ((assignEach ts X.env).map (·.2)) us) (fun _ s' => ∃ σ' H', Inv X pins σ' H' s' ∧ Q σ' H') X.xe s
def wOp (X : Cx) (f : Value → Value → Sem Value) : R2 := fun x y H Q => ∀ pins s σ v u, Inv X pins σ H s → RelV x v → RelV y u → wpAny (model X.prog X.w) X.A (f v u) (EP X pins σ Q) X.xe s
section
variable {X : Cx}
theorem pe_w {e : Expr} : PE X e (wE X e) := ⟨fun pins s σ H Q I h => h pins s I⟩
theorem pt_w {e : Expr} : PT X e (wT X e) := ⟨fun pins s σ H Q I h => h pins s I⟩
theorem pw_w {e : Expr} : PW X e (wW X e) := ⟨fun whole pins s σ H Q I h => h whole pins s I⟩
theorem pa_w {es : List Expr} : PA X es (wA X es) := ⟨fun pos pins s σ H Q I h => h pos pins s I⟩
theorem ps_w {st : Stmt} : PS X st (wS X st) := ⟨fun pins s σ H D I h => h pins s I⟩
theorem pss_w {st : List Stmt} : PSs X st (wSs X st) := ⟨fun pins s σ H D I h => h pins s I⟩
theorem pg_w {tg : Expr} : PG X tg (wG X tg) := ⟨fun pins s σ H v u Q I r h => h pins s u I r⟩
theorem pgs_w {ts : List Expr} : PGs X ts (wGs X ts) := ⟨fun pins s σ H vs us Q I r h => h pins s us I r⟩
theorem op_w {f : Value → Value → Sem Value} : OpR X f (wOp X f) := fun pins s σ H x y v u Q I r1 r2 h => h pins s σ v u I r1 r2
theorem wE_of {e : Expr} {t : TE} {σ : St} {H : Hp} {Q : VK} (h : PE X e t) (q : t σ H Q) : wE X e σ H Q := fun pins s I => h.run pins s σ H Q I q
theorem wT_of {e : Expr} {t : TT} {σ : St} {H : Hp} {Q : Bool → Hp → Prop} (h : PT X e t) (q : t σ H Q) : wT X e σ H Q := fun pins s I => h.run pins s σ H Q I q
theorem wW_of {e : Expr} {t : TT} {σ : St} {H : Hp} {Q : Bool → Hp → Prop} (h : PW X e t) (q : t σ H Q) : wW X e σ H Q := fun whole pins s I => h.run whole pins s σ H Q I q
theorem wA_of {es : List Expr} {t : TA} {σ : St} {H : Hp} {Q : List V → Hp → Prop} (h : PA X es t) (q : t σ H Q) : wA X es σ H Q := fun pos pins s I => h.run pos pins s σ H Q I q
theorem wS_of {st : Stmt} {t : TS} {σ : St} {H : Hp} {D : Ends} (h : PS X st t) (q : t D σ H) : wS X st D σ H := fun pins s I => h.run pins s σ H D I q
theorem wSs_of {st : List Stmt} {t : TS} {σ : St} {H : Hp} {D : Ends} (h : PSs X st t) (q : t D σ H) : wSs X st D σ H := fun pins s I => h.run pins s σ H D I q
theorem wG_of {tg : Expr} {t : TG} {σ : St} {H : Hp} {v : V} {Q : St → Hp → Prop} (h : PG X tg t) (q : t v σ H Q) : wG X tg v σ H Q := fun pins s u I r => h.run pins s σ H v u Q I r q
theorem wGs_of {ts : List Expr} {t : TGs} {σ : St} {H : Hp} {vs : List V} {Q : St → Hp → Prop} (h : PGs X ts t) (q : t vs σ H Q) : wGs X ts vs σ H Q := fun pins s us I r => h.run pins s σ H vs us Q I r q
theorem wE_mono {e : Expr} {σ : St} {H : Hp} {Q Q' : VK} (h : wE X e σ H Q) (k : ∀ v H', Q v H' → Q' v H') : wE X e σ H Q' := fun pins s I =>
  thn (h pins s I) fun _ _ ⟨v, H', I', r, q⟩ => ⟨v, H', I', r, k v H' q⟩
theorem SP_mono {pins : List (Addr × Obj)} {D D' : Ends} {f : Flow} {s : Shared} (h : SP X pins D f s) (h1 : ∀ σ H, D.nx σ H → D'.nx σ H) (h2 : ∀ v H, D.rt v H → D'.rt v H) (h3 : ∀ σ H, D.bk σ H → D'.bk σ H) (h4 : ∀ σ H, D.ct σ H → D'.ct σ H) : SP X pins D' f s := by
  cases f with
  | next => obtain ⟨σ, H, I, q⟩ := h; exact ⟨σ, H, I, h1 _ _ q⟩
  | brk => obtain ⟨σ, H, I, q⟩ := h; exact ⟨σ, H, I, h3 _ _ q⟩
  | cont => obtain ⟨σ, H, I, q⟩ := h; exact ⟨σ, H, I, h4 _ _ q⟩
  | ret u => obtain ⟨v, σ, H, I, r, q⟩ := h; exact ⟨v, σ, H, I, r, h2 _ _ q⟩
theorem wS_mono {st : Stmt} {D D' : Ends} {σ : St} {H : Hp} (h : wS X st D σ H) (h1 : ∀ σ H, D.nx σ H → D'.nx σ H) (h2 : ∀ v H, D.rt v H → D'.rt v H) (h3 : ∀ σ H, D.bk σ H → D'.bk σ H) (h4 : ∀ σ H, D.ct σ H → D'.ct σ H) : wS X st D' σ H := fun pins s I =>
  thn (h pins s I) fun _ _ q => SP_mono q h1 h2 h3 h4
theorem wSs_mono {st : List Stmt} {D D' : Ends} {σ : St} {H : Hp} (h : wSs X st D σ H) (h1 : ∀ σ H, D.nx σ H → D'.nx σ H) (h2 : ∀ v H, D.rt v H → D'.rt v H) (h3 : ∀ σ H, D.bk σ H → D'.bk σ H) (h4 : ∀ σ H, D.ct σ H → D'.ct σ H) : wSs X st D' σ H := fun pins s I =>
  thn (h pins s I) fun _ _ q => SP_mono q h1 h2 h3 h4
end

/-! ### slots -/
abbrev SL := List (Str × Option A)
structure VisX (X : Cx) (x : Str) : Prop where
  vis : Vis X.env.scope x
  db : (x == ("__debug__" : Str)) = false
  cd : (x == ("__classdict__" : Str)) = false
structure Sl (X : Cx) (P : Hp) (σ : St) (δ : SL) : Prop where
  names : δ.map (·.1) = X.N
  len : σ.length = δ.length
  val : ∀ (i : Nat) x a, δ[i]? = some (x, some a) → VisX X x ∧ ∃ v, σ[i]? = some (some v) ∧ Av X.K P v a
theorem Sl.mono {X : Cx} {P P' : Hp} {σ : St} {δ : SL} (e : Same P P') (h : Sl X P σ δ) : Sl X P' σ δ := ⟨h.names, h.len, fun i x a q => by
  obtain ⟨h1, v, h2, h3⟩ := h.val i x a q
  exact ⟨h1, v, h2, av_mono e h3⟩⟩
/-- looking a name up -/
inductive Lk : SL → Str → A → Prop
  | here {x : Str} {a : A} {δ : SL} : Lk ((x, some a) :: δ) x a
  | there {y : Str × Option A} {x : Str} {a : A} {δ : SL} : Lk δ x a → Lk (y :: δ) x a
theorem Lk.ix {δ : SL} {x : Str} {a : A} (h : Lk δ x a) : ∃ i : Nat, δ[i]? = some (x, some a) := by
  induction h with
  | here => exact ⟨0, rfl⟩
  | there _ ih => obtain ⟨i, e⟩ := ih; exact ⟨i + 1, e⟩
/-- storing -/
inductive Up : SL → Str → A → SL → Prop
  | here {x : Str} {b : Option A} {a : A} {δ : SL} : Up ((x, b) :: δ) x a ((x, some a) :: δ)
  | there {y : Str × Option A} {x : Str} {a : A} {δ δ' : SL} : Up δ x a δ' → Up (y :: δ) x a (y :: δ')
theorem Up.ix {δ δ' : SL} {x : Str} {a : A} (h : Up δ x a δ') : ∃ (i : Nat) (b : Option A), δ[i]? = some (x, b) ∧ δ' = δ.set i (x, some a) := by
  induction h with
  | here => exact ⟨0, _, rfl, rfl⟩
  | there _ ih => obtain ⟨i, b, e, q⟩ := ih; exact ⟨i + 1, b, e, by rw [q]; rfl⟩
/-- a def's context: what may be stored -/
structure XD (X : Cx) (L : List Str) : Prop where
  nd : X.N.Nodup
  loc : ∀ x ∈ L, Loc X.env.scope x ∧ (X.fn x = true ∨ X.env.scope.names.lookup x = some .local) ∧ (x == ("__debug__" : Str)) = false ∧ (x == ("__classdict__" : Str)) = false
  calm : X.calm = true
  pass : PassesOwn (model X.prog X.w) X.A X.env X.xe
/-- forgetting slots -/
inductive Fg : SL → SL → Prop
  | nil : Fg [] []
  | keep {x : Str × Option A} {δ δ' : SL} : Fg δ δ' → Fg (x :: δ) (x :: δ')
  | drop {x : Str} {a : Option A} {δ δ' : SL} : Fg δ δ' → Fg ((x, a) :: δ) ((x, none) :: δ')
theorem Fg.refl : ∀ δ : SL, Fg δ δ
  | [] => .nil
  | _ :: δ => .keep (Fg.refl δ)
theorem Fg.names {δ δ' : SL} (h : Fg δ δ') : δ'.map (·.1) = δ.map (·.1) := by
  induction h with
  | nil => rfl
  | keep _ ih => simp only [List.map_cons, ih]
  | drop _ ih => simp only [List.map_cons, ih]
theorem Fg.get {δ δ' : SL} (h : Fg δ δ') : ∀ (i : Nat) x a, δ'[i]? = some (x, some a) → δ[i]? = some (x, some a) := by
  induction h with
  | nil => intro i x a e; exact e
  | keep _ ih => intro i x a e; cases i with
    | zero => exact e
    | succ i => exact ih i x a e
  | drop _ ih => intro i x a e; cases i with
    | zero => simp at e
    | succ i => exact ih i x a e
theorem Sl.fg {X : Cx} {P : Hp} {σ : St} {δ δ' : SL} (h : Sl X P σ δ) (f : Fg δ δ') : Sl X P σ δ' := by
  refine ⟨f.names.trans h.names, ?_, fun i x a e => h.val i x a (f.get i x a e)⟩
  rw [h.len]
  have := congrArg List.length f.names
  simpa using this.symm
theorem Sl.up {X : Cx} {P : Hp} {σ : St} {δ δ' : SL} {x : Str} {a : A} {v : V} (h : Sl X P σ δ) (u : Up δ x a δ') (vx : VisX X x) (hv : Av X.K P v a) : ∃ i, X.N[i]? = some x ∧ Sl X P (σ.set i (some v)) δ' := by
  obtain ⟨i, b, e, rfl⟩ := u.ix
  have hi : i < δ.length := (List.getElem?_eq_some_iff.mp e).1
  refine ⟨i, ?_, ?_, ?_, fun j y c q => ?_⟩
  · rw [← h.names, List.getElem?_map, e]; rfl
  · rw [List.map_set, h.names]
    refine List.ext_getElem? fun j => ?_
    by_cases hj : i = j
    · subst hj
      rw [List.getElem?_set_self (by rw [← h.names, List.length_map]; exact hi), ← h.names, List.getElem?_map, e]; rfl
    · rw [List.getElem?_set_ne hj]
  · rw [List.length_set, List.length_set, h.len]
  · by_cases hj : i = j
    · subst hj
      rw [List.getElem?_set_self hi] at q
      cases q
      exact ⟨vx, v, List.getElem?_set_self (by rw [h.len]; exact hi), hv⟩
    · rw [List.getElem?_set_ne hj] at q
      obtain ⟨h1, w, h2, h3⟩ := h.val j y c q
      exact ⟨h1, w, by rw [List.getElem?_set_ne hj]; exact h2, h3⟩

/-! ### judgements -/
/-- what is wanted of an exception: its class, its own dict, slots, resources -/
abbrev EX := Value → Option Addr → SL → RL → Prop
abbrev EX0 : EX := fun _ _ _ _ => False
def TX (X : Cx) (ex : EX) (R : RL) (P H : Hp) : Prop := Takes X (fun cls d σ H' => ∃ δ R' P', ex cls d δ R' ∧ Sl X P' σ δ ∧ Wd X.K R' P' H' ∧ Stp R R' P H P' H')
theorem TX.step {X : Cx} {ex : EX} {R R1 : RL} {P H P1 H1 : Hp} (t : TX X ex R P H) (s : Stp R R1 P H P1 H1) : TX X ex R1 P1 H1 :=
  Takes.imp t fun _ _ _ _ ⟨δ, R', P', h1, h2, h3, h4⟩ => ⟨δ, R', P', h1, h2, h3, s.trans h4⟩
theorem TX.wide {X : Cx} {ex : EX} {R R1 : RL} {P H : Hp} (t : TX X ex R P H) (l : Le R R1) : TX X ex R1 P H :=
  Takes.imp t fun _ _ _ _ ⟨δ, R', P', h1, h2, h3, h4⟩ => ⟨δ, R', P', h1, h2, h3, h4.wide l⟩
def AE (X : Cx) (ex : EX) (e : Expr) (δ : SL) (R : RL) (post : A → RL → Prop) : Prop :=
  ∀ (σ : St) (P H : Hp), Sl X P σ δ → Wd X.K R P H → TX X ex R P H → ∀ Q : VK, (∀ v x R' P' H', post x R' → Av X.K P' v x → Wd X.K R' P' H' → Stp R R' P H P' H' → Q v H') → wE X e σ H Q
def AT (X : Cx) (ex : EX) (e : Expr) (δ : SL) (R : RL) (post : Bool → RL → Prop) : Prop :=
  ∀ (σ : St) (P H : Hp), Sl X P σ δ → Wd X.K R P H → TX X ex R P H → ∀ Q : Bool → Hp → Prop, (∀ k R' P' H', post k R' → Wd X.K R' P' H' → Stp R R' P H P' H' → Q k H') → wT X e σ H Q
def AW (X : Cx) (ex : EX) (e : Expr) (δ : SL) (R : RL) (post : Bool → RL → Prop) : Prop :=
  ∀ (σ : St) (P H : Hp), Sl X P σ δ → Wd X.K R P H → TX X ex R P H → ∀ Q : Bool → Hp → Prop, (∀ k R' P' H', post k R' → Wd X.K R' P' H' → Stp R R' P H P' H' → Q k H') → wW X e σ H Q
def AEs (X : Cx) (ex : EX) (es : List Expr) (δ : SL) (R : RL) (post : List A → RL → Prop) : Prop :=
  ∀ (σ : St) (P H : Hp), Sl X P σ δ → Wd X.K R P H → TX X ex R P H → ∀ Q : List V → Hp → Prop, (∀ vs xs R' P' H', post xs R' → PAv X.K P' vs xs → Wd X.K R' P' H' → Stp R R' P H P' H' → Q vs H') → wA X es σ H Q
structure AEnds where
  nx : SL → RL → Prop
  rt : A → RL → Prop
  bk : SL → RL → Prop := fun _ _ => False
  ct : SL → RL → Prop := fun _ _ => False
def liftS (X : Cx) (R : RL) (P H : Hp) (q : SL → RL → Prop) : St → Hp → Prop := fun σ H' => ∃ δ R' P', q δ R' ∧ Sl X P' σ δ ∧ Wd X.K R' P' H' ∧ Stp R R' P H P' H'
def liftV (X : Cx) (R : RL) (P H : Hp) (q : A → RL → Prop) : VK := fun v H' => ∃ x R' P', q x R' ∧ Av X.K P' v x ∧ Wd X.K R' P' H' ∧ Stp R R' P H P' H'
def lift (X : Cx) (R : RL) (P H : Hp) (D : AEnds) : Ends := ⟨liftS X R P H D.nx, liftV X R P H D.rt, liftS X R P H D.bk, liftS X R P H D.ct⟩
def AS (X : Cx) (ex : EX) (st : Stmt) (δ : SL) (R : RL) (D : AEnds) : Prop :=
  ∀ (σ : St) (P H : Hp), Sl X P σ δ → Wd X.K R P H → TX X ex R P H → wS X st (lift X R P H D) σ H
def ASs (X : Cx) (ex : EX) (st : List Stmt) (δ : SL) (R : RL) (D : AEnds) : Prop :=
  ∀ (σ : St) (P H : Hp), Sl X P σ δ → Wd X.K R P H → TX X ex R P H → wSs X st (lift X R P H D) σ H
/-- an operation on two values -/
def BA (X : Cx) (f : Value → Value → Sem Value) (a b : A) (R : RL) (post : A → RL → Prop) : Prop :=
  ∀ (P H : Hp) (x y : V), Av X.K P x a → Av X.K P y b → Wd X.K R P H → ∀ Q : VK, (∀ v z R' P' H', post z R' → Av X.K P' v z → Wd X.K R' P' H' → Stp R R' P H P' H' → Q v H') → wOp X f x y H Q
section
variable {X : Cx} {ex : EX} {δ δ' : SL} {R R' : RL} {D : AEnds} {e a b : Expr} {st : Stmt} {sts : List Stmt} {pos : Pos} {post : A → RL → Prop}
theorem liftS_step {R1 : RL} {P H P1 H1 : Hp} {q : SL → RL → Prop} (s : Stp R R1 P H P1 H1) : ∀ σ H', liftS X R1 P1 H1 q σ H' → liftS X R P H q σ H' :=
  fun _ _ ⟨δ, R', P', h1, h2, h3, h4⟩ => ⟨δ, R', P', h1, h2, h3, s.trans h4⟩
theorem liftV_step {R1 : RL} {P H P1 H1 : Hp} {q : A → RL → Prop} (s : Stp R R1 P H P1 H1) : ∀ v H', liftV X R1 P1 H1 q v H' → liftV X R P H q v H' :=
  fun _ _ ⟨δ, R', P', h1, h2, h3, h4⟩ => ⟨δ, R', P', h1, h2, h3, s.trans h4⟩
theorem wSs_lift {R1 : RL} {P H P1 H1 : Hp} {σ : St} {H' : Hp} (s : Stp R R1 P H P1 H1) (h : wSs X sts (lift X R1 P1 H1 D) σ H') : wSs X sts (lift X R P H D) σ H' :=
  wSs_mono h (liftS_step s) (liftV_step s) (liftS_step s) (liftS_step s)
theorem wS_lift {R1 : RL} {P H P1 H1 : Hp} {σ : St} {H' : Hp} (s : Stp R R1 P H P1 H1) (h : wS X st (lift X R1 P1 H1 D) σ H') : wS X st (lift X R P H D) σ H' :=
  wS_mono h (liftS_step s) (liftV_step s) (liftS_step s) (liftS_step s)

/-! ### blocks -/
theorem as_nil (h : D.nx δ R) : ASs X ex [] δ R D := fun σ P H hS hW _ => wSs_of pss_nil ⟨δ, R, P, h, hS, hW, Stp.refl⟩
theorem as_cons (h : AS X ex st δ R { D with nx := fun δ' R' => ASs X ex sts δ' R' D }) : ASs X ex (st :: sts) δ R D := fun σ P H hS hW hT => by
  refine wSs_of (pss_cons ps_w pss_w) ?_
  refine wS_mono (h σ P H hS hW hT) ?_ (fun _ _ q => q) (fun _ _ q => q) (fun _ _ q => q)
  rintro σ' H' ⟨δ', R', P', h1, h2, h3, h4⟩
  exact wSs_lift h4 (h1 σ' P' H' h2 h3 (hT.step h4))
/-- fewer resources, fewer slots -/
theorem as_weak (l : Le R R') (f : Fg δ δ') (h : ASs X ex sts δ' R' D) : ASs X ex sts δ R D := fun σ P H hS hW hT => by
  refine wSs_mono (h σ P H (hS.fg f) (hW.le l) (hT.wide l)) ?_ ?_ ?_ ?_
  all_goals exact fun _ _ ⟨δ, R', P', h1, h2, h3, h4⟩ => ⟨δ, R', P', h1, h2, h3, h4.wide l⟩
theorem as_drop (l : Le R R') (h : ASs X ex sts δ R' D) : ASs X ex sts δ R D := as_weak l (Fg.refl _) h
/-- forgetting at the end -/
theorem nx_weak {q : SL → RL → Prop} {σ : St} {P H P0 H0 : Hp} {R0 : RL} (h : ∃ δ' R', Le R R' ∧ Fg δ δ' ∧ q δ' R') (hS : Sl X P σ δ) (hW : Wd X.K R P H) (s : Stp R0 R P0 H0 P H) : liftS X R0 P0 H0 q σ H := by
  obtain ⟨δ', R', l, f, h⟩ := h
  exact ⟨δ', R', P, h, hS.fg f, hW.le l, s.le l⟩

/-! ### expressions -/
theorem ae_var {x : Str} {c : A} (h : Lk δ x c) (k : post c R) : AE X ex (.Name x pos) δ R post := fun σ P H hS hW _ Q q => by
  obtain ⟨i, e⟩ := h.ix
  obtain ⟨vx, v, h1, h2⟩ := hS.val i x c e
  have hN : X.N[i]? = some x := by rw [← hS.names, List.getElem?_map, e]; rfl
  exact wE_of (pe_var hN vx.vis vx.db vx.cd) ⟨v, h1, q v c R P H k h2 hW Stp.refl⟩
theorem ae_int {i : Int} {j : Nat} (k : post (.i i) R) : AE X ex (.Constant (.int i) j pos) δ R post := fun σ P H hS hW _ Q q => wE_of pe_int (q _ _ R P H k (.int i) hW Stp.refl)
theorem ae_bl {i : Bool} {j : Nat} (k : post (.b i) R) : AE X ex (.Constant (.bool i) j pos) δ R post := fun σ P H hS hW _ Q q => wE_of pe_bl (q _ _ R P H k (.bl i) hW Stp.refl)
theorem ae_str {i : Str} {j : Nat} (k : post (.s i) R) : AE X ex (.Constant (.str i) j pos) δ R post := fun σ P H hS hW _ Q q => wE_of pe_str (q _ _ R P H k (.str i) hW Stp.refl)
theorem ae_non {j : Nat} (k : post .n R) : AE X ex (.Constant .none j pos) δ R post := fun σ P H hS hW _ Q q => wE_of pe_non (q _ _ R P H k .non hW Stp.refl)
theorem ae_weak (l : Le R R') (h : AE X ex e δ R' post) : AE X ex e δ R post := fun σ P H hS hW hT Q q =>
  h σ P H hS (hW.le l) (hT.wide l) Q fun v x R1 P' H' h1 h2 h3 h4 => q v x R1 P' H' h1 h2 h3 (h4.wide l)
theorem ae_mono {post' : A → RL → Prop} (h : AE X ex e δ R post') (k : ∀ x R', post' x R' → post x R') : AE X ex e δ R post := fun σ P H hS hW hT Q q =>
  h σ P H hS hW hT Q fun v x R1 P' H' h1 => q v x R1 P' H' (k _ _ h1)
theorem ae_bin {op : Operator} (h : AE X ex a δ R fun x R1 => AE X ex b δ R1 fun y R2 => BA X (binaryOp op) x y R2 post) : AE X ex (.BinOp a op b pos) δ R post := fun σ P H hS hW hT Q q => by
  refine wE_of (pe_op op_w pe_w pe_w) ?_
  refine h σ P H hS hW hT _ fun v x R1 P1 H1 h1 h2 h3 h4 => ?_
  refine h1 σ P1 H1 (hS.mono h4.ex) h3 (hT.step h4) _ fun u y R2 P2 H2 k1 k2 k3 k4 => ?_
  exact k1 P2 H2 v u (av_mono k4.ex h2) k2 k3 Q fun w z R3 P3 H3 m1 m2 m3 m4 => q w z R3 P3 H3 m1 m2 m3 ((h4.trans k4).trans m4)
theorem ae_cmp {op : CmpOp} (hm : behindInMarks op b = false) (h : AE X ex a δ R fun x R1 => AE X ex b δ R1 fun y R2 => BA X (compareOp op) x y R2 post) : AE X ex (.Compare a [op] [b] pos) δ R post := fun σ P H hS hW hT Q q => by
  refine wE_of (pe_cmpR op_w pe_w pe_w hm) ?_
  refine h σ P H hS hW hT _ fun v x R1 P1 H1 h1 h2 h3 h4 => ?_
  refine h1 σ P1 H1 (hS.mono h4.ex) h3 (hT.step h4) _ fun u y R2 P2 H2 k1 k2 k3 k4 => ?_
  exact k1 P2 H2 v u (av_mono k4.ex h2) k2 k3 Q fun w z R3 P3 H3 m1 m2 m3 m4 => q w z R3 P3 H3 m1 m2 m3 ((h4.trans k4).trans m4)
/-- a op b op' c -/
theorem ae_chain {op op' : CmpOp} {c : Expr} (hm : lastMarks [op, op'] [b, c] = false)
    (h : AE X ex a δ R fun x R1 => AE X ex b δ R1 fun y R2 => BA X (compareOp op) x y R2 fun z R3 => ∃ k, z = .b k ∧ (k = true → AE X ex c δ R3 fun w R4 => BA X (compareOp op') y w R4 post) ∧ (k = false → post (.b false) R3)) : AE X ex (.Compare a [op, op'] [b, c] pos) δ R post := fun σ P H hS hW hT Q q => by
  refine wE_of (pe_chain op_w op_w pe_w pe_w pe_w hm) ?_
  refine h σ P H hS hW hT _ fun v x R1 P1 H1 h1 h2 h3 h4 => ?_
  refine h1 σ P1 H1 (hS.mono h4.ex) h3 (hT.step h4) _ fun u y R2 P2 H2 k1 k2 k3 k4 => ?_
  refine k1 P2 H2 v u (av_mono k4.ex h2) k2 k3 _ fun w z R3 P3 H3 m1 m2 m3 m4 => ?_
  obtain ⟨k, rfl, t1, t2⟩ := m1
  cases m2
  have s3 := (h4.trans k4).trans m4
  refine ⟨k, rfl, ?_⟩
  cases k with
  | false => rw [if_neg Bool.false_ne_true]; exact q _ _ R3 P3 H3 (t2 rfl) (.bl false) m3 s3
  | true =>
    rw [if_pos rfl]
    refine t1 rfl σ P3 H3 (hS.mono s3.ex) m3 (hT.step s3) _ fun w' z' R4 P4 H4 n1 n2 n3 n4 => ?_
    exact n1 P4 H4 u w' (av_mono (m4.ex.trans n4.ex) k2) n2 n3 Q fun w2 z2 R5 P5 H5 o1 o2 o3 o4 => q w2 z2 R5 P5 H5 o1 o2 o3 ((s3.trans n4).trans o4)
theorem ae_neg (h : AE X ex a δ R fun x R1 => ∃ n : Int, x = .i n ∧ post (.i (-n)) R1) : AE X ex (.UnaryOp .USub a pos) δ R post := fun σ P H hS hW hT Q q => by
  refine wE_of (pe_un un_neg pe_w) ?_
  refine h σ P H hS hW hT _ fun v x R1 P1 H1 h1 h2 h3 h4 => ?_
  obtain ⟨n, rfl, k⟩ := h1
  cases h2
  exact ⟨n, rfl, q _ _ R1 P1 H1 k (.int _) h3 h4⟩
end

/-! ### tests -/
section
variable {L : List Str} {X : Cx} {ex : EX} {δ δ' : SL} {R R' : RL} {D : AEnds} {e a b c : Expr} {st : Stmt} {sts ts us : List Stmt} {rest : List Expr} {pos : Pos} {post : A → RL → Prop} {postT : Bool → RL → Prop}
/-- a truth value as a test -/
theorem at_val (h : AE X ex e δ R fun x R1 => ∃ k, x = .b k ∧ postT k R1) (he : ∀ whole, isTrue e X.env whole = (do let v ← whole; standAt e.pos; holding [v] (truthy v)) := by intro _; rfl) : AT X ex e δ R postT := fun σ P H hS hW hT Q q => by
  refine wT_of (pt_val pe_w he) ?_
  refine h σ P H hS hW hT _ fun v x R1 P1 H1 h1 h2 h3 h4 => ?_
  obtain ⟨k, rfl, k1⟩ := h1
  cases h2
  exact ⟨k, rfl, q k R1 P1 H1 k1 h3 h4⟩
/-- any value's truth -/
def TruA (a : A) (R : RL) (k : Bool) : Prop :=
  match a with
  | .d .none => k = false
  | .d (.bool b) => k = b
  | .d (.int i) => k = (i != 0)
  | .d (.str y) => y.length ≤ sizeLine ∧ k = ((y.length : Int) != 0)
  | .d (.list xs) => k = !xs.isEmpty
  | .d (.tuple xs) => k = !xs.isEmpty
  | .d (.dict _) => False
  | .ptr p => (∃ xs, (p, Res.lst xs) ∈ R ∧ k = !xs.isEmpty) ∨ (∃ kvs, (p, Res.dK kvs) ∈ R ∧ k = !kvs.isEmpty)
  | .ty _ => False
  | .tk _ => False
  | .tp _ => False
  | .fx _ => False
theorem pav_empty {K : PySem.W.Frag} {P : Hp} {vs : List V} {xs : List A} (h : PAv K P vs xs) : (!vs.isEmpty) = !xs.isEmpty := by cases h <;> rfl
theorem pkv_empty {κ : Type} {K : PySem.W.Frag} {P : Hp} {vs : List (κ × V)} {xs : List (κ × A)} (h : PKv K P vs xs) : (!vs.isEmpty) = !xs.isEmpty := by cases h <;> rfl
theorem dpAll_empty {K : PySem.W.Frag} {P : Hp} {vs : List V} {xs : List PyData} (h : DpAll K P vs xs) : (!vs.isEmpty) = !xs.isEmpty := by cases h <;> rfl
theorem truA_ok {K : PySem.W.Frag} {P H : Hp} {v : V} {a : A} {k : Bool} (hv : Av K P v a) (w : Wd K R P H) (h : TruA a R k) : TruV K v H k := by
  cases a with
  | d x =>
    have hv : Dp K P v x := hv
    cases hv with
    | non => exact h
    | bl b => exact h
    | int i => exact h
    | str s => exact h
    | lst hs ha => exact .inl ⟨_, w.sub.seq hs, by rw [dpAll_empty ha]; exact h⟩
    | tup hs ha => exact .inr (.inl ⟨_, sqT_mono w.sub hs, by rw [dpAll_empty ha]; exact h⟩)
  | ty n => exact False.elim h
  | tk n => exact False.elim h
  | tp n => exact False.elim h
  | fx n => exact False.elim h
  | ptr p =>
    obtain rfl : v = .ref p := hv
    rcases h with ⟨xs, m, e⟩ | ⟨kvs, m, e⟩
    · obtain ⟨vs, h1, h2⟩ := w.has _ _ m
      exact .inl ⟨vs, SqL.of h1, by rw [pav_empty h2]; exact e⟩
    · obtain ⟨vs, h1, h2⟩ := w.has _ _ m
      exact .inr (.inr ⟨vs, h1, by rw [pkv_empty h2]; exact e⟩)
theorem at_tru (h : AE X ex e δ R fun x R1 => ∃ k, TruA x R1 k ∧ postT k R1) (he : ∀ whole, isTrue e X.env whole = (do let v ← whole; standAt e.pos; holding [v] (truthy v)) := by intro _; rfl) : AT X ex e δ R postT := fun σ P H hS hW hT Q q => by
  refine wT_of (pt_truth pe_w he) ?_
  refine h σ P H hS hW hT _ fun v x R1 P1 H1 h1 h2 h3 h4 => ?_
  obtain ⟨k, t, k1⟩ := h1
  exact ⟨k, truA_ok h2 h3 t, q k R1 P1 H1 k1 h3 h4⟩
theorem at_cmp {op : CmpOp} (hm : behindInMarks op b = false) (h : AE X ex a δ R fun x R1 => AE X ex b δ R1 fun y R2 => BA X (compareOp op) x y R2 fun z R3 => ∃ k, z = .b k ∧ postT k R3) : AT X ex (.Compare a [op] [b] pos) δ R postT := fun σ P H hS hW hT Q q => by
  refine wT_of (pt_cmpR op_w pe_w pe_w hm) ?_
  refine h σ P H hS hW hT _ fun v x R1 P1 H1 h1 h2 h3 h4 => ?_
  refine h1 σ P1 H1 (hS.mono h4.ex) h3 (hT.step h4) _ fun u y R2 P2 H2 k1 k2 k3 k4 => ?_
  refine k1 P2 H2 v u (av_mono k4.ex h2) k2 k3 _ fun w z R3 P3 H3 m1 m2 m3 m4 => ?_
  obtain ⟨k, rfl, kk⟩ := m1
  cases m2
  exact ⟨k, rfl, q k R3 P3 H3 kk m3 ((h4.trans k4).trans m4)⟩
theorem at_chain {op op' : CmpOp} (hm : lastMarks [op, op'] [b, c] = false)
    (h : AE X ex a δ R fun x R1 => AE X ex b δ R1 fun y R2 => BA X (compareOp op) x y R2 fun z R3 => ∃ k, z = .b k ∧ (k = true → AE X ex c δ R3 fun w R4 => BA X (compareOp op') y w R4 fun z R5 => ∃ k, z = .b k ∧ postT k R5) ∧ (k = false → postT false R3)) : AT X ex (.Compare a [op, op'] [b, c] pos) δ R postT := fun σ P H hS hW hT Q q => by
  refine wT_of (pt_chain op_w op_w pe_w pe_w pe_w hm) ?_
  refine h σ P H hS hW hT _ fun v x R1 P1 H1 h1 h2 h3 h4 => ?_
  refine h1 σ P1 H1 (hS.mono h4.ex) h3 (hT.step h4) _ fun u y R2 P2 H2 k1 k2 k3 k4 => ?_
  refine k1 P2 H2 v u (av_mono k4.ex h2) k2 k3 _ fun w z R3 P3 H3 m1 m2 m3 m4 => ?_
  obtain ⟨k, rfl, t1, t2⟩ := m1
  cases m2
  have s3 := (h4.trans k4).trans m4
  refine ⟨k, rfl, ?_⟩
  cases k with
  | false => rw [if_neg Bool.false_ne_true]; exact ⟨_, rfl, q _ R3 P3 H3 (t2 rfl) m3 s3⟩
  | true =>
    rw [if_pos rfl]
    refine t1 rfl σ P3 H3 (hS.mono s3.ex) m3 (hT.step s3) _ fun w' z' R4 P4 H4 n1 n2 n3 n4 => ?_
    refine n1 P4 H4 u w' (av_mono (m4.ex.trans n4.ex) k2) n2 n3 _ fun w2 z2 R5 P5 H5 o1 o2 o3 o4 => ?_
    obtain ⟨k5, rfl, kk⟩ := o1
    cases o2
    exact ⟨_, rfl, q _ R5 P5 H5 kk o3 ((s3.trans n4).trans o4)⟩
theorem at_not (h : AT X ex a δ R fun k R1 => postT (!k) R1) : AT X ex (.UnaryOp .Not a pos) δ R postT := fun σ P H hS hW hT Q q => by
  refine wT_of (pt_not pt_w) ?_
  exact h σ P H hS hW hT _ fun k R1 P1 H1 h1 h2 h3 => q _ R1 P1 H1 h1 h2 h3
theorem aw_and1 (h : AT X ex a δ R postT) : AW X ex (.BoolOp .And [a] pos) δ R postT := fun σ P H hS hW hT Q q => wW_of (pw_and1 pt_w) (h σ P H hS hW hT Q q)
theorem aw_or1 (h : AT X ex a δ R postT) : AW X ex (.BoolOp .Or [a] pos) δ R postT := fun σ P H hS hW hT Q q => wW_of (pw_or1 pt_w) (h σ P H hS hW hT Q q)
theorem aw_and (h : AT X ex a δ R fun k R1 => (k = true → AW X ex (.BoolOp .And (b :: rest) pos) δ R1 postT) ∧ (k = false → postT false R1)) : AW X ex (.BoolOp .And (a :: b :: rest) pos) δ R postT := fun σ P H hS hW hT Q q => by
  refine wW_of (pw_and pt_w pw_w) ?_
  refine h σ P H hS hW hT _ fun k R1 P1 H1 h1 h2 h3 => ?_
  cases k with
  | true => rw [if_pos rfl]; exact h1.1 rfl σ P1 H1 (hS.mono h3.ex) h2 (hT.step h3) _ fun k R2 P2 H2 m1 m2 m3 => q k R2 P2 H2 m1 m2 (h3.trans m3)
  | false => rw [if_neg Bool.false_ne_true]; exact q _ R1 P1 H1 (h1.2 rfl) h2 h3
theorem aw_or (h : AT X ex a δ R fun k R1 => (k = false → AW X ex (.BoolOp .Or (b :: rest) pos) δ R1 postT) ∧ (k = true → postT true R1)) : AW X ex (.BoolOp .Or (a :: b :: rest) pos) δ R postT := fun σ P H hS hW hT Q q => by
  refine wW_of (pw_or pt_w pw_w) ?_
  refine h σ P H hS hW hT _ fun k R1 P1 H1 h1 h2 h3 => ?_
  cases k with
  | false => rw [if_neg Bool.false_ne_true]; exact h1.1 rfl σ P1 H1 (hS.mono h3.ex) h2 (hT.step h3) _ fun k R2 P2 H2 m1 m2 m3 => q k R2 P2 H2 m1 m2 (h3.trans m3)
  | true => rw [if_pos rfl]; exact q _ R1 P1 H1 (h1.2 rfl) h2 h3
theorem at_of_w (h : AW X ex e δ R postT) : AT X ex e δ R postT := fun σ P H hS hW hT Q q => wT_of (PW.pt pw_w) (h σ P H hS hW hT Q q)
/-- and, or, not as values: truth values -/
theorem ae_one {op : BoolOp} (h : AE X ex a δ R post) : AE X ex (.BoolOp op [a] pos) δ R post := fun σ P H hS hW hT Q q => wE_of (pe_one pe_w) (h σ P H hS hW hT Q q)
theorem ae_and (h : AE X ex a δ R fun x R1 => ∃ k, x = .b k ∧ (k = true → AE X ex (.BoolOp .And (b :: rest) pos) δ R1 post) ∧ (k = false → post (.b false) R1)) : AE X ex (.BoolOp .And (a :: b :: rest) pos) δ R post := fun σ P H hS hW hT Q q => by
  refine wE_of (pe_and pe_w pe_w) ?_
  refine h σ P H hS hW hT _ fun v x R1 P1 H1 h1 h2 h3 h4 => ?_
  obtain ⟨k, rfl, t1, t2⟩ := h1
  cases h2
  refine ⟨k, rfl, ?_⟩
  cases k with
  | true => rw [if_pos rfl]; exact t1 rfl σ P1 H1 (hS.mono h4.ex) h3 (hT.step h4) _ fun v x R2 P2 H2 m1 m2 m3 m4 => q v x R2 P2 H2 m1 m2 m3 (h4.trans m4)
  | false => rw [if_neg Bool.false_ne_true]; exact q _ _ R1 P1 H1 (t2 rfl) (.bl _) h3 h4
theorem ae_or (h : AE X ex a δ R fun x R1 => ∃ k, x = .b k ∧ (k = false → AE X ex (.BoolOp .Or (b :: rest) pos) δ R1 post) ∧ (k = true → post (.b true) R1)) : AE X ex (.BoolOp .Or (a :: b :: rest) pos) δ R post := fun σ P H hS hW hT Q q => by
  refine wE_of (pe_or pe_w pe_w) ?_
  refine h σ P H hS hW hT _ fun v x R1 P1 H1 h1 h2 h3 h4 => ?_
  obtain ⟨k, rfl, t1, t2⟩ := h1
  cases h2
  refine ⟨k, rfl, ?_⟩
  cases k with
  | false => rw [if_neg Bool.false_ne_true]; exact t1 rfl σ P1 H1 (hS.mono h4.ex) h3 (hT.step h4) _ fun v x R2 P2 H2 m1 m2 m3 m4 => q v x R2 P2 H2 m1 m2 m3 (h4.trans m4)
  | true => rw [if_pos rfl]; exact q _ _ R1 P1 H1 (t2 rfl) (.bl _) h3 h4
theorem ae_not (h : AE X ex a δ R fun x R1 => ∃ k, x = .b k ∧ post (.b (!k)) R1) : AE X ex (.UnaryOp .Not a pos) δ R post := fun σ P H hS hW hT Q q => by
  refine wE_of (pe_not pe_w) ?_
  refine h σ P H hS hW hT _ fun v x R1 P1 H1 h1 h2 h3 h4 => ?_
  obtain ⟨k, rfl, t1⟩ := h1
  cases h2
  exact ⟨k, rfl, q _ _ R1 P1 H1 t1 (.bl _) h3 h4⟩
theorem ae_if (h : AT X ex c δ R fun k R1 => (k = true → AE X ex a δ R1 post) ∧ (k = false → AE X ex b δ R1 post)) : AE X ex (.IfExp c a b pos) δ R post := fun σ P H hS hW hT Q q => by
  refine wE_of (pe_ifExp pt_w pe_w pe_w) ?_
  refine h σ P H hS hW hT _ fun k R1 P1 H1 h1 h2 h3 => ?_
  cases k with
  | true => rw [if_pos rfl]; exact h1.1 rfl σ P1 H1 (hS.mono h3.ex) h2 (hT.step h3) _ fun v x R2 P2 H2 m1 m2 m3 m4 => q v x R2 P2 H2 m1 m2 m3 (h3.trans m4)
  | false => rw [if_neg Bool.false_ne_true]; exact h1.2 rfl σ P1 H1 (hS.mono h3.ex) h2 (hT.step h3) _ fun v x R2 P2 H2 m1 m2 m3 m4 => q v x R2 P2 H2 m1 m2 m3 (h3.trans m4)

/-! ### statements -/
theorem as_if (h : AT X ex c δ R fun k R1 => (k = true → ASs X ex ts δ R1 D) ∧ (k = false → ASs X ex us δ R1 D)) : AS X ex (.If c ts us pos) δ R D := fun σ P H hS hW hT => by
  refine wS_of (ps_if pt_w pss_w pss_w) ?_
  refine h σ P H hS hW hT _ fun k R1 P1 H1 h1 h2 h3 => ?_
  cases k with
  | true => rw [if_pos rfl]; exact wSs_lift h3 (h1.1 rfl σ P1 H1 (hS.mono h3.ex) h2 (hT.step h3))
  | false => rw [if_neg Bool.false_ne_true]; exact wSs_lift h3 (h1.2 rfl σ P1 H1 (hS.mono h3.ex) h2 (hT.step h3))
theorem as_pass (h : D.nx δ R) : AS X ex (.Pass pos) δ R D := fun σ P H hS hW _ => wS_of ps_pass ⟨δ, R, P, h, hS, hW, Stp.refl⟩
theorem as_brk (h : ∃ δ' R', Le R R' ∧ Fg δ δ' ∧ D.bk δ' R') : AS X ex (.Break pos) δ R D := fun σ P H hS hW _ => wS_of ps_break (nx_weak h hS hW Stp.refl)
theorem as_cont (h : ∃ δ' R', Le R R' ∧ Fg δ δ' ∧ D.ct δ' R') : AS X ex (.Continue pos) δ R D := fun σ P H hS hW _ => wS_of ps_continue (nx_weak h hS hW Stp.refl)
theorem as_ret (h : AE X ex e δ R fun x R1 => ∃ R2, Le R1 R2 ∧ D.rt x R2) : AS X ex (.Return (some e) pos) δ R D := fun σ P H hS hW hT => by
  refine wS_of (ps_ret pe_w) ?_
  exact h σ P H hS hW hT _ fun v x R1 P1 H1 ⟨R2, l, h1⟩ h2 h3 h4 => ⟨x, R2, P1, h1, h2, h3.le l, h4.le l⟩
theorem as_retN (h : ∃ R2, Le R R2 ∧ D.rt .n R2) : AS X ex (.Return none pos) δ R D := fun σ P H hS hW hT => by
  obtain ⟨R2, l, h1⟩ := h
  exact wS_of ps_retN ⟨.n, R2, P, h1, .non, hW.le l, Stp.refl.le l⟩
theorem as_expr (h : AE X ex e δ R fun _ R1 => D.nx δ R1) (hs : swapsWith e none pos.line X.env = Pure.pure false := by rfl) : AS X ex (.Expr e pos) δ R D := fun σ P H hS hW hT => by
  refine wS_of (ps_expr pe_w hs) ?_
  exact h σ P H hS hW hT _ fun v x R1 P1 H1 h1 h2 h3 h4 => ⟨δ, R1, P1, h1, hS.mono h4.ex, h3, h4⟩
/-- targets -/
def AG (X : Cx) (ex : EX) (tg : Expr) (a : A) (δ : SL) (R : RL) (q : SL → RL → Prop) : Prop :=
  ∀ (σ : St) (P H : Hp) (v : V), Sl X P σ δ → Wd X.K R P H → TX X ex R P H → Av X.K P v a → wG X tg v σ H (liftS X R P H q)
def AGs (X : Cx) (ex : EX) (tgs : List Expr) (as : List A) (δ : SL) (R : RL) (q : SL → RL → Prop) : Prop :=
  ∀ (σ : St) (P H : Hp) (vs : List V), Sl X P σ δ → Wd X.K R P H → TX X ex R P H → PAv X.K P vs as → wGs X tgs vs σ H (liftS X R P H q)
theorem as_asg {tg : Expr} (h : AE X ex e δ R fun x R1 => AG X ex tg x δ R1 D.nx) (hs : swapsWithSole [tg] e pos.line X.env = Pure.pure false := by rfl) (hw : swappedStores [tg] e X.env = Pure.pure none := by rfl)
    (h1 : (assignEach [tg] X.env).map (·.2) = [assign tg X.env] := by rfl) : AS X ex (.Assign [tg] e pos) δ R D := fun σ P H hS hW hT => by
  refine wS_of (ps_asg pe_w pg_w hs hw h1) ?_
  refine h σ P H hS hW hT _ fun v x R1 P1 H1 h1 h2 h3 h4 => ?_
  exact fun pins s u I r => thn (h1 σ P1 H1 v (hS.mono h4.ex) h3 (hT.step h4) h2 pins s u I r) fun _ _ ⟨σ', H', I', q⟩ => ⟨σ', H', I', liftS_step h4 _ _ q⟩
theorem ag_name {x : Str} {v : A} {q : SL → RL → Prop} (hX : XD X L) (hm : x ∈ L) (u : Up δ x v δ') (k : q δ' R) : AG X ex (.Name x pos) v δ R q := fun σ P H w hS hW _ hv => by
  obtain ⟨l1, l2, l3, l4⟩ := hX.loc x hm
  obtain ⟨i, h1, h2⟩ := hS.up u ⟨l1.elim .inl fun z => .inr (.inl z), l3, l4⟩ hv
  exact wG_of (pg_name hX.nd h1 l1 l2) ⟨δ', R, P, k, h2, hW, Stp.refl⟩
theorem ags_nil {q : SL → RL → Prop} (k : q δ R) : AGs X ex [] [] δ R q := fun σ P H vs hS hW _ hv => by
  cases hv
  exact wGs_of pgs_nil ⟨rfl, δ, R, P, k, hS, hW, Stp.refl⟩
theorem ags_cons {tg : Expr} {tgs : List Expr} {v : A} {vs : List A} {q : SL → RL → Prop} (h : AG X ex tg v δ R fun δ' R' => AGs X ex tgs vs δ' R' q)
    (hs : (assignEach (tg :: tgs) X.env).map (·.2) = assign tg X.env :: (assignEach tgs X.env).map (·.2) := by rfl) : AGs X ex (tg :: tgs) (v :: vs) δ R q := fun σ P H ws hS hW hT hv => by
  cases hv with
  | cons h1 h2 =>
    refine wGs_of (pgs_cons pg_w pgs_w hs) ⟨_, _, rfl, ?_⟩
    exact fun pins s u I r => thn (h σ P H _ hS hW hT h1 pins s u I r) fun _ _ ⟨σ', H', I', δ', R', P', k1, k2, k3, k4⟩ =>
      ⟨σ', H', I', fun pins s us I r => thn (k1 σ' P' H' _ k2 k3 (hT.step k4) (pav_mono k4.ex h2) pins s us I r) fun _ _ ⟨σ2, H2, I2, z⟩ => ⟨σ2, H2, I2, liftS_step k4 _ _ z⟩⟩
theorem dpAll_pav {K : PySem.W.Frag} {P : Hp} : ∀ {vs : List V} {xs : List PyData}, DpAll K P vs xs → PAv K P vs (xs.map .d)
  | _, _, .nil => .nil
  | _, _, .cons h t => .cons h (dpAll_pav t)
theorem pav_dpAll {K : PySem.W.Frag} {P : Hp} : ∀ {vs : List V} {xs : List PyData}, PAv K P vs (xs.map .d) → DpAll K P vs xs
  | [], [], .nil => .nil
  | _ :: _, _ :: _, .cons h t => .cons h (pav_dpAll t)
theorem dpAll_len {K : PySem.W.Frag} {P : Hp} {vs : List V} {xs : List PyData} (h : DpAll K P vs xs) : vs.length = xs.length := by
  rw [(dpAll_pav h).length, List.length_map]
/-- a, b, .. = a tuple -/
theorem ag_tup {tgs : List Expr} {j : Nat} {xs : List PyData} {q : SL → RL → Prop} (hX : XD X L) (h : AGs X ex tgs (xs.map .d) δ R q)
    (hn : (assignEach tgs X.env).length = xs.length := by rfl) (hst : (assignEach tgs X.env).findIdx? (·.1) = none := by rfl) : AG X ex (.Tuple tgs j pos) (.t xs) δ R q := fun σ P H v hS hW hT hv => by
  have hv : Dp X.K P v (.tuple xs) := hv
  cases hv with
  | tup hs ha =>
    refine wG_of (pg_tup hX.calm pgs_w hn hst) ⟨_, _, rfl, sqT_mono hW.sub hs, dpAll_len ha, ?_⟩
    exact h σ P H _ hS hW hT (dpAll_pav ha)
end
end AL

namespace AL
open PySem L2

/-! ### lists, keys -/
section
variable {K : PySem.W.Frag} {P : Hp}
theorem pav_get : ∀ {vs : List V} {xs : List A} {i : Nat} {c : A}, PAv K P vs xs → xs[i]? = some c → ∃ v, vs[i]? = some v ∧ Av K P v c
  | _, _, _, _, .nil, e => by simp at e
  | _, _, 0, _, .cons r _, e => by simp at e; subst e; exact ⟨_, rfl, r⟩
  | _, _, i + 1, c, .cons _ t, e => by
    obtain ⟨v, h1, h2⟩ := pav_get (i := i) (c := c) t (by simpa using e)
    exact ⟨v, by simpa using h1, h2⟩
theorem pav_atI {vs : List V} {xs : List A} {i : Int} {c : A} (h : PAv K P vs xs) (e : atI xs i = some c) : ∃ v, atI vs i = some v ∧ Av K P v c := by
  unfold atI at e ⊢
  rw [h.length]
  cases q : ixN xs.length i with
  | none => rw [q] at e; cases e
  | some j => rw [q] at e; exact pav_get h e
theorem atI_map {α β : Type} (f : α → β) (xs : List α) (i : Int) : atI (xs.map f) i = (atI xs i).map f := by
  unfold atI
  rw [List.length_map]
  cases ixN xs.length i with
  | none => rfl
  | some j => simp
theorem dpAll_atI {vs : List V} {xs : List PyData} {i : Int} {c : PyData} (h : DpAll K P vs xs) (e : atI xs i = some c) : ∃ v, atI vs i = some v ∧ Dp K P v c := by
  obtain ⟨v, h1, h2⟩ := pav_atI (dpAll_pav h) (c := .d c) (by rw [atI_map, e]; rfl)
  exact ⟨v, h1, h2⟩
theorem pav_set : ∀ {vs : List V} {xs : List A} {v : V} {c : A} (i : Nat), PAv K P vs xs → Av K P v c → PAv K P (vs.set i v) (xs.set i c)
  | _, _, _, _, _, .nil, _ => .nil
  | _, _, _, _, 0, .cons _ t, h => .cons h t
  | _, _, _, _, i + 1, .cons q t, h => .cons q (pav_set i t h)
theorem pav_append : ∀ {vs ws : List V} {xs ys : List A}, PAv K P vs xs → PAv K P ws ys → PAv K P (vs ++ ws) (xs ++ ys)
  | _, _, _, _, .nil, h => h
  | _, _, _, _, .cons q t, h => .cons q (pav_append t h)
theorem pav_drop : ∀ {vs : List V} {xs : List A} (n : Nat), PAv K P vs xs → PAv K P (vs.drop n) (xs.drop n)
  | _, _, 0, r => r
  | _, _, _ + 1, .nil => .nil
  | _, _, n + 1, .cons _ t => pav_drop n t
theorem pav_take : ∀ {vs : List V} {xs : List A} (n : Nat), PAv K P vs xs → PAv K P (vs.take n) (xs.take n)
  | _, _, 0, _ => .nil
  | _, _, _ + 1, .nil => .nil
  | _, _, n + 1, .cons r t => .cons r (pav_take n t)
theorem pav_reverse {vs : List V} {xs : List A} (h : PAv K P vs xs) : PAv K P vs.reverse xs.reverse := by
  induction h with
  | nil => exact .nil
  | cons r t ih => rw [List.reverse_cons, List.reverse_cons]; exact pav_append ih (.cons r .nil)
theorem pav_dropLast {vs : List V} {xs : List A} (h : PAv K P vs xs) : PAv K P vs.dropLast xs.dropLast := by
  rw [List.dropLast_eq_take, List.dropLast_eq_take, h.length]; exact pav_take _ h
end
def cutA {α : Type} (xs : List α) (lo hi : Option Int) : List α := (xs.drop (HT.sIx xs.length 0 lo)).take (HT.sIx xs.length xs.length hi - HT.sIx xs.length 0 lo)
theorem pav_cut {K : PySem.W.Frag} {P : Hp} {vs : List V} {xs : List A} (h : PAv K P vs xs) (lo hi : Option Int) : PAv K P (cutV vs lo hi) (cutA xs lo hi) := by
  unfold cutV cutA
  rw [h.length]
  exact pav_take _ (pav_drop _ h)
section
variable {κ : Type} [DecidableEq κ]
def lkA {α : Type} (kvs : List (κ × α)) (k : κ) : Option α := (kvs.find? fun kv => decide (kv.1 = k)).map (·.2)
def putA {α : Type} (kvs : List (κ × α)) (k : κ) (v : α) : List (κ × α) :=
  if (kvs.any fun kv => decide (kv.1 = k)) = true then kvs.map (fun kv => if kv.1 = k then (kv.1, v) else kv) else kvs ++ [(k, v)]
theorem pkv_lk {K : PySem.W.Frag} {P : Hp} {k : κ} : ∀ {vs : List (κ × V)} {xs : List (κ × A)}, PKv K P vs xs → (∀ c, lkA xs k = some c → ∃ v, valV vs k = some v ∧ Av K P v c) ∧ (lkA xs k = none → valV vs k = none)
  | _, _, .nil => ⟨fun _ e => (nomatch e), fun _ => rfl⟩
  | _, _, .cons (a := p) (b := q) (l₁ := l1) (l₂ := l2) h t => by
    obtain ⟨i1, i2⟩ := pkv_lk (k := k) t
    by_cases e : p.1 = k
    · have e2 : q.1 = k := h.1.symm.trans e
      have z : lkA (q :: l2) k = some q.2 := by simp [lkA, List.find?_cons, e2]
      refine ⟨fun c hc => ⟨p.2, valV_pos e, ?_⟩, fun hc => ?_⟩
      · rw [z] at hc; cases hc; exact h.2
      · rw [z] at hc; cases hc
    · have e2 : ¬ q.1 = k := fun z => e (h.1.trans z)
      have z : lkA (q :: l2) k = lkA l2 k := by simp [lkA, List.find?_cons, e2]
      refine ⟨fun c hc => ?_, fun hc => ?_⟩
      · rw [z] at hc; rw [valV_neg e]; exact i1 c hc
      · rw [z] at hc; rw [valV_neg e]; exact i2 hc
theorem pkv_isSome {K : PySem.W.Frag} {P : Hp} {k : κ} {vs : List (κ × V)} {xs : List (κ × A)} (h : PKv K P vs xs) : (valV vs k).isSome = (lkA xs k).isSome := by
  obtain ⟨h1, h2⟩ := pkv_lk (k := k) h
  cases e : lkA xs k with
  | none => rw [h2 e]; rfl
  | some c => obtain ⟨v, q, _⟩ := h1 c e; rw [q]; rfl
theorem lkA_any {α : Type} (k : κ) : ∀ kvs : List (κ × α), (kvs.any fun kv => decide (kv.1 = k)) = (lkA kvs k).isSome
  | [] => rfl
  | p :: r => by
    rw [List.any_cons, lkA_any k r]
    by_cases e : p.1 = k <;> simp [lkA, List.find?_cons, e]
theorem pkv_put {K : PySem.W.Frag} {P : Hp} {k : κ} {v : V} {c : A} {vs : List (κ × V)} {xs : List (κ × A)} (h : PKv K P vs xs) (hv : Av K P v c) : PKv K P (putK vs k v) (putA xs k c) := by
  unfold putK putA
  rw [valV_any, lkA_any, pkv_isSome h]
  by_cases e : (lkA xs k).isSome = true
  · rw [if_pos e, if_pos e]
    clear e
    induction h with
    | nil => exact .nil
    | cons q t ih =>
      rename_i p q0 ps qs
      rw [List.map_cons, List.map_cons]
      refine .cons ?_ ih
      by_cases e : p.1 = k
      · rw [if_pos e, if_pos (q.1.symm.trans e)]; exact ⟨q.1, hv⟩
      · rw [if_neg e, if_neg (fun z => e (q.1.trans z))]; exact q
  · rw [if_neg e, if_neg e]
    clear e
    induction h with
    | nil => exact .cons ⟨rfl, hv⟩ .nil
    | cons q t ih => exact .cons q ih
theorem length_putA {α : Type} (kvs : List (κ × α)) (k : κ) (v : α) : (putA kvs k v).length ≤ kvs.length + 1 := by
  unfold putA
  split
  · rw [List.length_map]; omega
  · rw [List.length_append, List.length_cons, List.length_nil]; omega
end
/-- a key as abstract data -/
def kD : Key → PyData
  | .inl i => .int i
  | .inr x => .str x
theorem kD_dp {K : PySem.W.Frag} {P : Hp} : ∀ k : Key, Dp K P (kV k) (kD k)
  | .inl i => .int i
  | .inr x => .str x
theorem kD_v {K : PySem.W.Frag} {P : Hp} {v : V} : ∀ {k : Key}, Dp K P v (kD k) → v = kV k
  | .inl i, h => by cases h; rfl
  | .inr x, h => by cases h; rfl
theorem kDs_v {K : PySem.W.Frag} {P : Hp} : ∀ {ks : List Key} {vs : List V}, DpAll K P vs (ks.map kD) → vs = ks.map kV
  | [], _, h => by cases h; rfl
  | k :: ks, _, h => by
    cases h with
    | cons h t => rw [kD_v h, kDs_v t]; rfl

/-! ### operations on values -/
section
variable {X : Cx} {R : RL} {post : A → RL → Prop} {f : Value → Value → Sem Value} {r : R2} {a b : A}
theorem BA.of (h : OpR X f r) (k : ∀ (P H : Hp) (x y : V), Av X.K P x a → Av X.K P y b → Wd X.K R P H → ∀ Q : VK, (∀ v z R' P' H', post z R' → Av X.K P' v z → Wd X.K R' P' H' → Stp R R' P H P' H' → Q v H') → r x y H Q) : BA X f a b R post :=
  fun P H x y ha hb hW Q q pins s σ v u I r1 r2 => h pins s σ H x y v u Q I r1 r2 (k P H x y ha hb hW Q q)
theorem ba_int {g : Int → Int → V} {m n : Int} {C : Int → Int → Prop} {z : A} (h : OpR X f (rI C g)) (hc : C m n) (hz : ∀ P, Av X.K P (g m n) z) (k : post z R) : BA X f (.i m) (.i n) R post :=
  BA.of h fun P H x y ha hb hW Q q => by
    cases ha; cases hb
    exact ⟨m, n, rfl, rfl, hc, q _ _ R P H k (hz P) hW Stp.refl⟩
theorem ba_int0 {g : Int → Int → V} {m n : Int} {z : A} (h : OpR X f (rI0 g)) (hz : ∀ P, Av X.K P (g m n) z) (k : post z R) : BA X f (.i m) (.i n) R post :=
  BA.of h fun P H x y ha hb hW Q q => by
    cases ha; cases hb
    exact ⟨m, n, rfl, rfl, q _ _ R P H k (hz P) hW Stp.refl⟩
variable {m n : Int} {s t : Str} {c d : Bool} {x y : PyData}
theorem aInt {K : PySem.W.Frag} {P : Hp} {i : Int} : Av K P (.int i) (.i i) := .int i
theorem aBl {K : PySem.W.Frag} {P : Hp} {i : Bool} : Av K P (.bl i) (.b i) := .bl i
theorem aStr {K : PySem.W.Frag} {P : Hp} {i : Str} : Av K P (.str i) (.s i) := .str i
theorem aNon {K : PySem.W.Frag} {P : Hp} : Av K P .non .n := .non
theorem ba_add (k : post (.i (m + n)) R) : BA X (binaryOp .Add) (.i m) (.i n) R post := ba_int0 op_add (fun _ => aInt) k
theorem ba_sub (k : post (.i (m - n)) R) : BA X (binaryOp .Sub) (.i m) (.i n) R post := ba_int0 op_sub (fun _ => aInt) k
theorem ba_mul (hc : CMul m n) (k : post (.i (m * n)) R) : BA X (binaryOp .Mult) (.i m) (.i n) R post := ba_int op_mul hc (fun _ => aInt) k
theorem ba_mulX (hc : CMulX m n) (k : post (.i (m * n)) R) : BA X (binaryOp .Mult) (.i m) (.i n) R post := ba_int op_mulX hc (fun _ => aInt) k
theorem ba_fdiv (hc : 0 < n ∧ n < 1073741824) (k : post (.i (m / n)) R) : BA X (binaryOp .FloorDiv) (.i m) (.i n) R post := ba_int op_fdiv hc (fun _ => aInt) k
theorem ba_fdivW (hc : CDivW m n) (k : post (.i (m / n)) R) : BA X (binaryOp .FloorDiv) (.i m) (.i n) R post := ba_int op_fdivW hc (fun _ => aInt) k
theorem ba_mod (hc : 0 < n) (k : post (.i (m % n)) R) : BA X (binaryOp .Mod) (.i m) (.i n) R post := ba_int op_mod hc (fun _ => aInt) k
theorem ba_modN (hc : n ≠ 0) (k : post (.i (m.fmod n)) R) : BA X (binaryOp .Mod) (.i m) (.i n) R post := ba_int op_modN hc (fun _ => aInt) k
theorem ba_shl (hc : CPow m n) (k : post (.i (m * 2 ^ n.toNat)) R) : BA X (binaryOp .LShift) (.i m) (.i n) R post := ba_int op_shl hc (fun _ => aInt) k
theorem ba_shr (hc : 0 ≤ n) (k : post (.i (m / 2 ^ n.toNat)) R) : BA X (binaryOp .RShift) (.i m) (.i n) R post := ba_int op_shr hc (fun _ => aInt) k
theorem ba_pow (hc : CPow m n) (k : post (.i (m ^ n.toNat)) R) : BA X (binaryOp .Pow) (.i m) (.i n) R post := ba_int op_pow hc (fun _ => aInt) k
theorem ba_band (k : post (.i (Builtin.bitAnd m n)) R) : BA X (binaryOp .BitAnd) (.i m) (.i n) R post := ba_int0 op_and (fun _ => aInt) k
theorem ba_bor (k : post (.i (Builtin.bitOr m n)) R) : BA X (binaryOp .BitOr) (.i m) (.i n) R post := ba_int0 op_or (fun _ => aInt) k
theorem ba_lt (k : post (.b (decide (m < n))) R) : BA X (compareOp .Lt) (.i m) (.i n) R post := ba_int0 op_lt (fun _ => aBl) k
theorem ba_le (k : post (.b (decide (m ≤ n))) R) : BA X (compareOp .LtE) (.i m) (.i n) R post := ba_int0 op_le (fun _ => aBl) k
theorem ba_gt (k : post (.b (decide (n < m))) R) : BA X (compareOp .Gt) (.i m) (.i n) R post := ba_int0 op_gt (fun _ => aBl) k
theorem ba_ge (k : post (.b (decide (n ≤ m))) R) : BA X (compareOp .GtE) (.i m) (.i n) R post := ba_int0 op_ge (fun _ => aBl) k
theorem ba_scal {v w : V} {z : Bool} (ha : ∀ P x, Av X.K P x a → x = v) (hb : ∀ P x, Av X.K P x b → x = w) (hs : scal v w = true) (e : decide (v = w) = z) (k : post (.b z) R) : BA X (compareOp .Eq) a b R post :=
  BA.of op_eq fun P H x y h1 h2 hW Q q => by
    rw [ha P x h1, hb P y h2]
    exact ⟨hs, by rw [e]; exact q _ _ R P H k (.bl _) hW Stp.refl⟩
theorem ba_scalN {v w : V} {z : Bool} (ha : ∀ P x, Av X.K P x a → x = v) (hb : ∀ P x, Av X.K P x b → x = w) (hs : scal v w = true) (e : (!decide (v = w)) = z) (k : post (.b z) R) : BA X (compareOp .NotEq) a b R post :=
  BA.of op_ne fun P H x y h1 h2 hW Q q => by
    rw [ha P x h1, hb P y h2]
    exact ⟨hs, by rw [e]; exact q _ _ R P H k (.bl _) hW Stp.refl⟩
theorem av_i (P : Hp) (x : V) (h : Av X.K P x (.i m)) : x = .int m := by cases h; rfl
theorem av_b (P : Hp) (x : V) (h : Av X.K P x (.b c)) : x = .bl c := by cases h; rfl
theorem av_s (P : Hp) (x : V) (h : Av X.K P x (.s s)) : x = .str s := by cases h; rfl
theorem av_n (P : Hp) (x : V) (h : Av X.K P x .n) : x = .non := by cases h; rfl
theorem decV_int : decide (V.int m = V.int n) = decide (m = n) := by
  by_cases h : m = n
  · subst h; simp
  · rw [decide_eq_false h, decide_eq_false (fun e => h (V.int.inj e))]
theorem decV_str : decide (V.str s = V.str t) = decide (s = t) := by
  by_cases h : s = t
  · subst h; simp
  · rw [decide_eq_false h, decide_eq_false (fun e => h (V.str.inj e))]
theorem decV_bl : decide (V.bl c = V.bl d) = (c == d) := by cases c <;> cases d <;> rfl
theorem ba_eq (k : post (.b (decide (m = n))) R) : BA X (compareOp .Eq) (.i m) (.i n) R post := ba_scal av_i av_i rfl decV_int k
theorem ba_ne (k : post (.b (!decide (m = n))) R) : BA X (compareOp .NotEq) (.i m) (.i n) R post := ba_scalN av_i av_i rfl (by rw [decV_int]) k
theorem ba_eqS (k : post (.b (decide (s = t))) R) : BA X (compareOp .Eq) (.s s) (.s t) R post := ba_scal av_s av_s rfl decV_str k
theorem ba_neS (k : post (.b (!decide (s = t))) R) : BA X (compareOp .NotEq) (.s s) (.s t) R post := ba_scalN av_s av_s rfl (by rw [decV_str]) k
theorem ba_eqB (k : post (.b (c == d)) R) : BA X (compareOp .Eq) (.b c) (.b d) R post := ba_scal av_b av_b rfl decV_bl k
theorem ba_neB (k : post (.b (!(c == d))) R) : BA X (compareOp .NotEq) (.b c) (.b d) R post := ba_scalN av_b av_b rfl (by rw [decV_bl]) k
abbrev XU (X : Cx) : Prop := X.A.units + 64 < cLine
/-- == of data at any depth -/
theorem ba_eqD (hu : XU X) (h1 : SeqAt.shaped x = true) (h2 : SeqAt.shaped y = true) (k : post (.b (PyData.eqv x y)) R) : BA X (compareOp .Eq) (.d x) (.d y) R post :=
  BA.of (op_eqD hu) fun P H v w ha hb hW Q q => ⟨x, y, dp_mono hW.sub ha, dp_mono hW.sub hb, h1, h2, q _ _ R P H k (.bl _) hW Stp.refl⟩
theorem ba_neD (hu : XU X) (h1 : SeqAt.shaped x = true) (h2 : SeqAt.shaped y = true) (k : post (.b (!PyData.eqv x y)) R) : BA X (compareOp .NotEq) (.d x) (.d y) R post :=
  BA.of (op_neD hu) fun P H v w ha hb hW Q q => ⟨x, y, dp_mono hW.sub ha, dp_mono hW.sub hb, h1, h2, q _ _ R P H k (.bl _) hW Stp.refl⟩
def isNone : A → Bool
  | .d .none => true
  | _ => false
theorem av_none {P : Hp} {v : V} {a : A} (h : Av X.K P v a) : decide (v = V.non) = isNone a := by
  cases a with
  | ptr p => cases (show v = .ref p from h); rfl
  | ty n => cases (show v = .ty n from h); rfl
  | tk n => obtain ⟨t, e, _⟩ := (show ∃ t, v = .ref t ∧ P t = some (.tup (n.map kV)) from h); subst e; rfl
  | fx n => obtain ⟨t, od, es, e, _⟩ := (show ∃ p od es, v = .ref p ∧ P p = some (.frz od (xdict p es)) ∧ (p == sysModules) = false ∧ XDs0 X.K P es n from h); subst e; rfl
  | tp n => obtain ⟨t, vs, e, _⟩ := (show ∃ t vs, v = .ref t ∧ P t = some (.tup vs) ∧ Paired (Av0 X.K P) vs n from h); subst e; rfl
  | d x => have h : Dp X.K P v x := h; cases h <;> rfl
theorem ba_isN (k : post (.b (isNone a)) R) : BA X (compareOp .Is) a .n R post :=
  BA.of op_isN fun P H v w ha hb hW Q q => by
    cases hb
    exact ⟨rfl, by rw [av_none ha]; exact q _ _ R P H k (.bl _) hW Stp.refl⟩
theorem ba_notN (k : post (.b (!isNone a)) R) : BA X (compareOp .IsNot) a .n R post :=
  BA.of op_notN fun P H v w ha hb hW Q q => by
    cases hb
    exact ⟨rfl, by rw [av_none ha]; exact q _ _ R P H k (.bl _) hW Stp.refl⟩
theorem ba_addS (hl : s.length + t.length ≤ sizeLine) (k : post (.s (s ++ t)) R) : BA X (binaryOp .Add) (.s s) (.s t) R post :=
  BA.of op_add_str fun P H v w ha hb hW Q q => by
    cases ha; cases hb
    exact ⟨s, t, rfl, rfl, hl, q _ _ R P H k (.str _) hW Stp.refl⟩
/-- k in d, a dict of int and text keys -/
theorem ba_inK {p : Addr} {kvs : List (Key × A)} {U : Res → RL} {ky : Key} (hu : XU X) (hs : Sel R p (.dK kvs) U) (hk : a = .d (kD ky)) (k : post (.b (lkA kvs ky).isSome) R) : BA X (compareOp .In) a (.ptr p) R post := by
  intro P H x y ha hb hW Q q pins st σ v u I r1 r2
  subst hk
  cases (show y = .ref p from hb)
  obtain rfl : u = Value.ref p := r2
  obtain ⟨ws, h1, h2⟩ := hW.get hs
  obtain rfl := kD_v (show Dp X.K P x (kD ky) from ha)
  refine d_in (o := valV ws ky) (by omega) I (DGet.k h1) r1 fun s' I' => ?_
  rw [pkv_isSome h2]
  exact ⟨.bl _, H, I', rfl, q _ _ R P H k aBl hW Stp.refl⟩
theorem ba_ninK {p : Addr} {kvs : List (Key × A)} {U : Res → RL} {ky : Key} (hu : XU X) (hs : Sel R p (.dK kvs) U) (hk : a = .d (kD ky)) (k : post (.b (!(lkA kvs ky).isSome)) R) : BA X (compareOp .NotIn) a (.ptr p) R post := by
  intro P H x y ha hb hW Q q pins st σ v u I r1 r2
  subst hk
  cases (show y = .ref p from hb)
  obtain rfl : u = Value.ref p := r2
  obtain ⟨ws, h1, h2⟩ := hW.get hs
  obtain rfl := kD_v (show Dp X.K P x (kD ky) from ha)
  refine d_notIn (o := valV ws ky) (by omega) I (DGet.k h1) r1 fun s' I' => ?_
  rw [pkv_isSome h2]
  exact ⟨.bl _, H, I', rfl, q _ _ R P H k aBl hW Stp.refl⟩
end
end AL

namespace AL
open PySem L2 PySem.Spec PyProof.Rows

/-! ### subscripts -/
def wIx (X : Cx) (value slice : Expr) : R2 := fun x y H Q => ∀ pins s σ v u, Inv X pins σ H s → RelV x v → RelV y u → wpAny (model X.prog X.w) X.A (subscriptTail value slice v u) (EP X pins σ Q) X.xe s
def IA (X : Cx) (value slice : Expr) (a b : A) (R : RL) (post : A → RL → Prop) : Prop :=
  ∀ (P H : Hp) (x y : V), Av X.K P x a → Av X.K P y b → Wd X.K R P H → ∀ Q : VK, (∀ v z R' P' H', post z R' → Av X.K P' v z → Wd X.K R' P' H' → Stp R R' P H P' H' → Q v H') → wIx X value slice x y H Q
theorem subTail_of {prog : Program} {w : World} {A : Around} {E : Value → Shared → Prop} {s : Shared} {value slice : Expr} {o i : Value} {T id : String} {Q : Value → Shared → Prop}
    (hl : typeLookup (.type T) "__getitem__" = pure (some (.builtin id))) (hs : NoSl slice) (hT : s.TypeIs o T)
    (h : wpAny (model prog w) A (getItem o i) Q E s) : wpAny (model prog w) A (subscriptTail value slice o i) Q E s := by
  unfold subscriptTail
  refine wpAny_bind ?_
  rw [getitemInPython_of_ne hT.not_modules]
  refine wpAny_bind (wpAny_specialOf hT hl ?_)
  have fin : wpAny (model prog w) A (subscripted slice false o i) (fun r s₃ => wpAny (model prog w) A (letTemporaryGo value o r >>= fun _ => pure r) Q E s₃) E s := by
    rw [hs o i]
    exact wpAny_operating (wpAny_mono h (fun r s₃ h₃ => wpAny_bind (wpAny_letTemporaryGo (wpAny_pure h₃))) fun _ _ x => x)
  first
    | exact wpAny_pure (wpAny_bind fin)
    | exact wpAny_bind (wpAny_pure (wpAny_bind fin))
    | exact wpAny_bind fin
section
variable {X : Cx} {ex : EX} {δ δ' : SL} {R R' : RL} {D : AEnds} {e a b : Expr} {es : List Expr} {pos : Pos} {post : A → RL → Prop} {U : Res → RL} {p : Addr} {xs : List A} {ds : List PyData} {n : Int} {c : A} {x : PyData} {value slice : Expr}
theorem ae_sub (h : AE X ex a δ R fun x R1 => AE X ex b δ R1 fun y R2 => IA X a b x y R2 post) : AE X ex (.Subscript a b pos) δ R post := fun σ P H hS hW hT Q q pins s I => by
  refine Subscript_ (binT pe_w pe_w (R := fun x y H2 => wIx X a b x y H2 Q) I ?_ fun v u s2 x y H2 I2 rx ry k => k pins s2 σ v u I2 rx ry)
  refine h σ P H hS hW hT _ fun v x R1 P1 H1 h1 h2 h3 h4 => ?_
  refine h1 σ P1 H1 (hS.mono h4.ex) h3 (hT.step h4) _ fun u y R2 P2 H2 k1 k2 k3 k4 => ?_
  exact k1 P2 H2 v u (av_mono k4.ex h2) k2 k3 Q fun w z R3 P3 H3 m1 m2 m3 m4 => q w z R3 P3 H3 m1 m2 m3 ((h4.trans k4).trans m4)
theorem ia_lst (hs : Sel R p (.lst xs) U) (ha : atI xs n = some c) (k : post c R) (hp : PlainIx slice := by exact fun _ _ => rfl) : IA X value slice (.ptr p) (.i n) R post := fun P H v w hv hw hW Q q pins s σ u u' I r1 r2 => by
  cases hw
  cases (show v = .ref p from hv)
  obtain ⟨vs, h1, h2⟩ := hW.get hs
  obtain ⟨y, e, hy⟩ := pav_atI h2 ha
  exact ix_list value slice pins s σ H _ _ u u' Q I r1 r2 ⟨p, vs, n, y, rfl, rfl, SqL.of h1, e, q _ _ R P H k hy hW Stp.refl⟩ (hp _ _)
theorem ia_l (ha : atI ds n = some x) (k : post (.d x) R) (hp : PlainIx slice := by exact fun _ _ => rfl) : IA X value slice (.l ds) (.i n) R post := fun P H v w hv hw hW Q q pins s σ u u' I r1 r2 => by
  cases hw
  have hv : Dp X.K P v (.list ds) := hv
  cases hv with
  | lst hs hd =>
    obtain ⟨y, e, hy⟩ := dpAll_atI hd ha
    exact ix_list value slice pins s σ H _ _ u u' Q I r1 r2 ⟨_, _, n, y, rfl, rfl, hW.sub.seq hs, e, q _ _ R P H k hy hW Stp.refl⟩ (hp _ _)
theorem ia_t (ha : atI ds n = some x) (k : post (.d x) R) (hp : PlainIx slice := by exact fun _ _ => rfl) : IA X value slice (.t ds) (.i n) R post := fun P H v w hv hw hW Q q pins s σ u u' I r1 r2 => by
  cases hw
  have hv : Dp X.K P v (.tuple ds) := hv
  cases hv with
  | tup hs hd =>
    obtain ⟨y, e, hy⟩ := dpAll_atI hd ha
    exact ix_tup value slice pins s σ H _ _ u u' Q I r1 r2 ⟨_, _, n, y, rfl, rfl, sqT_mono hW.sub hs, e, q _ _ R P H k hy hW Stp.refl⟩ (hp _ _)
theorem ia_s {z : Str} {ch : Nat} (hz : z.length ≤ sizeLine) (ha : atI z.cps.toList n = some ch) (k : post (.s ⟨#[ch]⟩) R) (hp : PlainIx slice := by exact fun _ _ => rfl) : IA X value slice (.s z) (.i n) R post := fun P H v w hv hw hW Q q pins s σ u u' I r1 r2 => by
  cases hw; cases hv
  exact ix_str value slice pins s σ H _ _ u u' Q I r1 r2 ⟨z, n, ch, rfl, rfl, hz, ha, q _ _ R P H k aStr hW Stp.refl⟩ (hp _ _)
theorem ia_dK {kvs : List (Key × A)} {ky : Key} {b : A} (hu : XU X) (hs : Sel R p (.dK kvs) U) (hb : b = .d (kD ky)) (ha : lkA kvs ky = some c) (k : post c R) (hp : NoSl slice := by exact fun _ _ => rfl) : IA X value slice (.ptr p) b R post := fun P H v w hv hw hW Q q pins s σ u u' I r1 r2 => by
  subst hb
  cases (show v = .ref p from hv)
  obtain rfl : u = Value.ref p := r1
  obtain ⟨ws, h1, h2⟩ := hW.get hs
  obtain rfl := kD_v (show Dp X.K P w (kD ky) from hw)
  obtain ⟨y, e, hy⟩ := (pkv_lk h2).1 c ha
  have g : DGet H p (kV ky) (some y) := by rw [← e]; exact DGet.k h1
  exact subTail_of PySem.F.slot_dict_getitem.lookup hp (dict_typeIs I g) (d_getItem (by omega) I g r2 fun w' s3 I3 rw' => ⟨y, H, I3, rw', q _ _ R P H k hy hW Stp.refl⟩)
theorem ia_dT {kvs : List (List Key × A)} {ky : List Key} {b : A} (hu : XU X) (hs : Sel R p (.dT kvs) U) (hb : b = .t (ky.map kD)) (hkk : ∀ (P H : Hp) (w : V), Wd X.K R P H → Av X.K P w b → ∃ t, w = .ref t ∧ H t = some (.tup (ky.map kV))) (ha : lkA kvs ky = some c) (k : post c R) (hp : NoSl slice := by exact fun _ _ => rfl) : IA X value slice (.ptr p) b R post := fun P H v w hv hw hW Q q pins s σ u u' I r1 r2 => by
  cases (show v = .ref p from hv)
  obtain rfl : u = Value.ref p := r1
  obtain ⟨ws, h1, h2⟩ := hW.get hs
  obtain ⟨t, rfl, ht⟩ := hkk P H w hW hw
  obtain ⟨y, e, hy⟩ := (pkv_lk h2).1 c ha
  have g : DGet H p (.ref t) (some y) := by rw [← e]; exact DGet.t h1 ht
  exact subTail_of PySem.F.slot_dict_getitem.lookup hp (dict_typeIs I g) (d_getItem (by omega) I g r2 fun w' s3 I3 rw' => ⟨y, H, I3, rw', q _ _ R P H k hy hW Stp.refl⟩)
/-- slices -/
def AO (X : Cx) (ex : EX) (o : Option Expr) (δ : SL) (R : RL) (post : Option Int → RL → Prop) : Prop :=
  match o with
  | none => post none R
  | some e => AE X ex e δ R fun x R1 => ∃ i : Int, x = .i i ∧ post (some i) R1
def wSl (X : Cx) : V → Option Int → Option Int → Hp → VK → Prop := fun x lo hi H Q => ∃ r, SlR X r ∧ r x lo hi H Q
def SA (X : Cx) (a : A) (lo hi : Option Int) (R : RL) (post : A → RL → Prop) : Prop :=
  ∃ r, SlR X r ∧ ∀ (P H : Hp) (x : V), Av X.K P x a → Wd X.K R P H → ∀ Q : VK, (∀ v z R' P' H', post z R' → Av X.K P' v z → Wd X.K R' P' H' → Stp R R' P H P' H' → Q v H') → r x lo hi H Q
def wO (X : Cx) (o : Option Expr) : TO := fun σ H Q => match o with
  | none => Q none H
  | some e => wE X e σ H fun x H1 => ∃ i, x = .int i ∧ Q (some i) H1
theorem po_w {o : Option Expr} : PO X o (wO X o) := by
  cases o with
  | none => exact po_none
  | some e => exact po_some pe_w
theorem ao_run {o : Option Expr} {post : Option Int → RL → Prop} (h : AO X ex o δ R post) (σ : L2.St) (P H : Hp) (hS : Sl X P σ δ) (hW : Wd X.K R P H) (hT : TX X ex R P H) (Q : Option Int → Hp → Prop)
    (q : ∀ k R' P' H', post k R' → Wd X.K R' P' H' → Stp R R' P H P' H' → Q k H') : wO X o σ H Q := by
  cases o with
  | none => exact q _ R P H h hW Stp.refl
  | some e =>
    refine (show AE X ex e δ R _ from h) σ P H hS hW hT _ fun v x R1 P1 H1 h1 h2 h3 h4 => ?_
    obtain ⟨i, rfl, k⟩ := h1
    cases h2
    exact ⟨i, rfl, q _ R1 P1 H1 k h3 h4⟩
theorem ae_slice {lo hi : Option Expr} {p2 : Pos} (h : AE X ex a δ R fun x R1 => AO X ex lo δ R1 fun l R2 => AO X ex hi δ R2 fun u R3 => SA X x l u R3 post) : AE X ex (.Subscript a (.Slice lo hi none p2) pos) δ R post := fun σ P H hS hW hT Q q pins s I => by
  have key : tSl (fun x l u H Q => ∃ r, SlR X r ∧ r x l u H Q) (wE X a) (wO X lo) (wO X hi) σ H Q := by
    refine h σ P H hS hW hT _ fun v x R1 P1 H1 h1 h2 h3 h4 => ?_
    refine ao_run h1 σ P1 H1 (hS.mono h4.ex) h3 (hT.step h4) _ fun l R2 P2 H2 k1 k2 k3 => ?_
    have s2 := h4.trans k3
    refine ao_run k1 σ P2 H2 (hS.mono s2.ex) k2 (hT.step s2) _ fun u R3 P3 H3 m1 m2 m3 => ?_
    have s3 := s2.trans m3
    obtain ⟨r, hr, hh⟩ := m1
    exact ⟨r, hr, hh P3 H3 v (av_mono (k3.trans m3).ex h2) m2 Q fun w z R4 P4 H4 n1 n2 n3 n4 => q w z R4 P4 H4 n1 n2 n3 (s3.trans n4)⟩
  have hr : SlR X (fun x l u H Q => ∃ r, SlR X r ∧ r x l u H Q) := by
    rintro pins s σ H x v vl vu l u sl Q I r1 hs pl pu ⟨r, hr, k⟩
    exact hr pins s σ H x v vl vu l u sl Q I r1 hs pl pu k
  exact (pe_slice hr pe_w po_w po_w).run pins s σ H Q I key
theorem sa_lst {lo hi : Option Int} (hs : Sel R p (.lst xs) U) (k : ∀ q, post (.ptr q) ((q, .lst (cutA xs lo hi)) :: R)) : SA X (.ptr p) lo hi R post := ⟨_, sl_list, fun P H v hv hW Q q => by
  cases (show v = .ref p from hv)
  obtain ⟨vs, h1, h2⟩ := hW.get hs
  exact ⟨p, vs, rfl, SqL.of h1, fun r hr => q _ _ _ P _ (k r) rfl (hW.new hr ⟨_, upd_same, pav_cut h2 lo hi⟩) (stp_new hr)⟩⟩
theorem cutA_map {α β : Type} (f : α → β) (xs : List α) (lo hi : Option Int) : cutA (xs.map f) lo hi = (cutA xs lo hi).map f := by
  unfold cutA
  rw [List.map_take, List.map_drop, List.length_map]
theorem sa_l {lo hi : Option Int} (k : ∀ q, post (.ptr q) ((q, .lst ((cutA ds lo hi).map .d)) :: R)) : SA X (.l ds) lo hi R post := ⟨_, sl_list, fun P H v hv hW Q q => by
  have hv : Dp X.K P v (.list ds) := hv
  cases hv with
  | lst hs hd => exact ⟨_, _, rfl, hW.sub.seq hs, fun r hr => q _ _ _ P _ (k r) rfl (hW.new hr ⟨_, upd_same, by rw [← cutA_map]; exact pav_cut (dpAll_pav hd) lo hi⟩) (stp_new hr)⟩⟩
theorem dpAll_cut {K : PySem.W.Frag} {P : Hp} {vs : List V} {xs : List PyData} (h : DpAll K P vs xs) (lo hi : Option Int) : DpAll K P (cutV vs lo hi) (cutA xs lo hi) := by
  refine pav_dpAll ?_
  have e : (cutA xs lo hi).map A.d = cutA (xs.map .d) lo hi := by
    unfold cutA
    rw [List.map_take, List.map_drop, List.length_map]
  rw [e]
  exact pav_cut (dpAll_pav h) lo hi
theorem sa_t {lo hi : Option Int} (hne : ¬ (HT.sIx ds.length 0 lo = 0 ∧ HT.sIx ds.length ds.length hi = ds.length)) (k : post (.t (cutA ds lo hi)) R) : SA X (.t ds) lo hi R post := ⟨_, sl_tup, fun P H v hv hW Q q => by
  have hv : Dp X.K P v (.tuple ds) := hv
  cases hv with
  | @tup a0 vs0 ds0 hs hd =>
    refine ⟨_, _, rfl, sqT_mono hW.sub hs, by rw [dpAll_len hd]; exact hne, fun r hr => ?_⟩
    have s1 := stp_pure (o := .tup (cutV vs0 lo hi)) hW hr
    exact q _ _ R _ _ k (Dp.tup (SqT.of upd_same) (dpAll_mono s1.ex (dpAll_cut hd lo hi))) (hW.pure hr) s1⟩
theorem sa_s {lo hi : Option Int} {z : Str} (hz : z.length ≤ sizeLine) (k : post (.s (cutS z lo hi)) R) : SA X (.s z) lo hi R post := ⟨_, sl_str, fun P H v hv hW Q q => by
  cases hv
  exact ⟨z, rfl, hz, q _ _ R P H k aStr hW Stp.refl⟩⟩

/-! ### argument lists, displays -/
theorem aes_nil {postL : List A → RL → Prop} (k : postL [] R) : AEs X ex [] δ R postL := fun σ P H hS hW _ Q q => wA_of pa_nil (q _ _ R P H k .nil hW Stp.refl)
theorem aes_cons {postL : List A → RL → Prop} (h : AE X ex e δ R fun x R1 => AEs X ex es δ R1 fun xs R2 => postL (x :: xs) R2) (hs : starEach (e :: es) X.env = (false, eval e X.env) :: starEach es X.env := by rfl) : AEs X ex (e :: es) δ R postL := fun σ P H hS hW hT Q q => by
  refine wA_of (pa_cons pe_w pa_w hs) ?_
  refine h σ P H hS hW hT _ fun v x R1 P1 H1 h1 h2 h3 h4 => ?_
  exact h1 σ P1 H1 (hS.mono h4.ex) h3 (hT.step h4) _ fun vs xs R2 P2 H2 k1 k2 k3 k4 => q _ _ R2 P2 H2 k1 (.cons (av_mono k4.ex h2) k2) k3 (h4.trans k4)
inductive AsD : List A → List PyData → Prop
  | nil : AsD [] []
  | cons {x : PyData} {xs : List A} {ds : List PyData} : AsD xs ds → AsD (.d x :: xs) (x :: ds)
theorem AsD.eq {xs : List A} {ds : List PyData} (h : AsD xs ds) : xs = ds.map .d := by
  induction h with
  | nil => rfl
  | cons _ ih => rw [ih]; rfl
theorem AsD.map : ∀ ds : List PyData, AsD (ds.map .d) ds
  | [] => .nil
  | _ :: ds => .cons (AsD.map ds)
theorem ae_tup {j : Nat} (h : AEs X ex es δ R fun xs R1 => ∃ ds, AsD xs ds ∧ ds.length ≤ sizeLine ∧ post (.t ds) R1) : AE X ex (.Tuple es j pos) δ R post := fun σ P H hS hW hT Q q => by
  refine wE_of (pe_tup pa_w) ?_
  refine h σ P H hS hW hT _ fun vs xs R1 P1 H1 h1 h2 h3 h4 => ?_
  obtain ⟨ds, hd, hl, k⟩ := h1
  obtain rfl := hd.eq
  refine ⟨by rw [h2.length, List.length_map]; exact hl, fun r hr => ?_⟩
  have s1 := stp_pure (o := .tup vs) h3 hr
  exact q _ _ R1 _ _ k (Dp.tup (SqT.of upd_same) (dpAll_mono s1.ex (pav_dpAll h2))) (h3.pure hr) (h4.trans s1)
theorem ae_lst (h : AEs X ex es δ R fun xs R1 => xs.length ≤ sizeLine ∧ ∀ r, post (.ptr r) ((r, .lst xs) :: R1)) : AE X ex (.List es pos) δ R post := fun σ P H hS hW hT Q q => by
  refine wE_of (pe_lst pa_w) ?_
  refine h σ P H hS hW hT _ fun vs xs R1 P1 H1 h1 h2 h3 h4 => ?_
  exact ⟨by rw [h2.length]; exact h1.1, fun r hr => q _ _ _ P1 _ (h1.2 r) rfl (h3.new hr ⟨_, upd_same, h2⟩) (h4.trans (stp_new hr))⟩
theorem ae_dnewK (h : ∀ r, post (.ptr r) ((r, .dK []) :: R)) : AE X ex (.Dict [] [] pos) δ R post := fun σ P H hS hW hT Q q =>
  wE_of pe_dnewK fun r hr => q _ _ _ P _ (h r) rfl (hW.new hr ⟨_, upd_same, .nil⟩) (stp_new hr)
theorem ae_dnewT (h : ∀ r, post (.ptr r) ((r, .dT []) :: R)) : AE X ex (.Dict [] [] pos) δ R post := fun σ P H hS hW hT Q q =>
  wE_of pe_dnewT fun r hr => q _ _ _ P _ (h r) rfl (hW.new hr ⟨_, upd_same, .nil⟩) (stp_new hr)
/-- a list resource becomes data -/
theorem wd_freeze {K : PySem.W.Frag} {P H : Hp} {R2 : RL} (hW : Wd K R P H) (h : Rem R p (.lst xs) R2) (hd : AsD xs ds) : ∃ P', Dp K P' (.ref p) (.list ds) ∧ Wd K R2 P' H ∧ Stp R R2 P H P' H := by
  obtain rfl := hd.eq
  have hm : (p, Res.lst (ds.map .d)) ∈ R := (h.mem _).mpr (.inl rfl)
  obtain ⟨vs, h1, h2⟩ := hW.has _ _ hm
  have pn : P p = none := hW.off p (mem_dom hm)
  have sm : Same P (upd P p (.lst vs)) := Wd.pure.Same_upd pn
  obtain ⟨n1, n2⟩ := h.nd hW.nd
  refine ⟨upd P p (.lst vs), .lst (SqL.of upd_same) (dpAll_mono sm (pav_dpAll h2)), ⟨fun b u e => ?_, fun b m => ?_, fun b r m => ?_, n2⟩, ⟨sm, fun _ _ e _ => e, fun b u e => ?_, fun b m => ?_⟩⟩
  · by_cases z : b = p
    · subst z; rw [upd_same] at e; cases e; exact h1
    · rw [upd_ne z] at e; exact hW.sub b u e
  · rw [upd_ne (fun z => n1 (by rw [← z]; exact m))]
    obtain ⟨y, hy, e⟩ := List.mem_map.mp m
    exact hW.off b (List.mem_map.mpr ⟨y, (h.mem y).mpr (.inr hy), e⟩)
  · exact res_mono sm (fun _ e => e) (hW.has b r ((h.mem _).mpr (.inr m)))
  · by_cases z : b = p
    · subst z; exact .inr (.inr (mem_dom hm))
    · rw [upd_ne z] at e; exact .inl e
  · obtain ⟨y, hy, e⟩ := List.mem_map.mp m
    exact .inl (List.mem_map.mpr ⟨y, (h.mem y).mpr (.inr hy), e⟩)
/-- a new list, taken as data -/
theorem ae_fz (h : AE X ex e δ R fun x R1 => ∃ p xs ds R2, x = .ptr p ∧ Rem R1 p (.lst xs) R2 ∧ AsD xs ds ∧ post (.l ds) R2) : AE X ex e δ R post := fun σ P H hS hW hT Q q => by
  refine h σ P H hS hW hT _ fun v x R1 P1 H1 h1 h2 h3 h4 => ?_
  obtain ⟨p, xs, ds, R2, rfl, hr, hd, k⟩ := h1
  cases (show v = .ref p from h2)
  obtain ⟨P', d1, w1, s1⟩ := wd_freeze h3 hr hd
  exact q _ _ R2 P' H1 k d1 w1 (h4.trans s1)
theorem Lk.up {δ δ' : SL} {x : Str} {a b : A} (u : Up δ x b δ') : Lk δ' x b := by
  induction u with
  | here => exact .here
  | there _ ih => exact .there ih
/-- a slot's list becomes data -/
theorem as_fz {x : Str} {R2 : RL} {sts : List Stmt} (l : Lk δ x (.ptr p)) (u : Up δ x (.l ds) δ') (hr : Rem R p (.lst xs) R2) (hd : AsD xs ds) (nd : X.N.Nodup) (h : ASs X ex sts δ' R2 D) : ASs X ex sts δ R D := fun σ P H hS hW hT => by
  obtain ⟨P', d1, w1, s1⟩ := wd_freeze hW hr hd
  refine wSs_lift s1 (h σ P' H ?_ w1 (hT.step s1))
  obtain ⟨i, e⟩ := l.ix
  obtain ⟨vx, v, h1, h2⟩ := hS.val i x _ e
  cases (show v = .ref p from h2)
  have hS' := hS.mono s1.ex
  obtain ⟨j, hj, q⟩ := hS'.up u vx (v := .ref p) d1
  have hi : X.N[i]? = some x := by rw [← hS.names, List.getElem?_map, e]; rfl
  obtain rfl := nodup_ix nd hi hj
  have : σ.set i (some (.ref p)) = σ := by
    refine List.ext_getElem? fun k => ?_
    by_cases z : i = k
    · subst z
      rw [List.getElem?_set_self (List.getElem?_eq_some_iff.mp h1).1, h1]
    · rw [List.getElem?_set_ne z]
  rwa [this] at q
end

/-! ### built-in calls -/
def CA (X : Cx) (f : Value) (as : List A) (R : RL) (post : A → RL → Prop) : Prop :=
  ∃ r, CallR X f r ∧ ∀ (P H : Hp) (xs : List V), PAv X.K P xs as → Wd X.K R P H → ∀ Q : VK, (∀ v z R' P' H', post z R' → Av X.K P' v z → Wd X.K R' P' H' → Stp R R' P H P' H' → Q v H') → r xs H Q
theorem callR_ex {X : Cx} {f : Value} : CallR X f (fun xs H Q => ∃ r, CallR X f r ∧ r xs H Q) := by
  rintro pins s σ H xs us Q I r1 ⟨r, hr, k⟩
  exact hr pins s σ H xs us Q I r1 k
section
variable {X : Cx} {ex : EX} {δ δ' : SL} {R R' : RL} {D : AEnds} {e a b : Expr} {es : List Expr} {pos : Pos} {post : A → RL → Prop} {U : Res → RL} {p : Addr} {xs : List A} {ds : List PyData} {m n : Int} {c : A} {x : Str} {p2 : Pos} {id T : String}
theorem ae_callB (hm : X.mg x = none) (hv : bootBuiltins x = some (.builtin id)) (h : AEs X ex (e :: es) δ R fun xs R1 => CA X (.builtin id) xs R1 post) (hg : Gl X x := by rfl) (hn : x ≠ "__name__" := by decide) (hdb : (x == ("__debug__" : Str)) = false := by decide)
    (he : starEach (e :: es) X.env = (false, eval e X.env) :: starEach es X.env := by rfl) (hpl : (backTo pos (starEach es X.env)).any (·.1) = false := by rfl) : AE X ex (.Call (.Name x p2) (e :: es) [] pos) δ R post := fun σ P H hS hW hT Q q => by
  refine wE_of (pe_callB callR_ex hg hm hv pa_w hn hdb he hpl) ?_
  refine h σ P H hS hW hT _ fun vs xs R1 P1 H1 h1 h2 h3 h4 => ?_
  obtain ⟨r, hr, k⟩ := h1
  exact ⟨r, hr, k P1 H1 vs h2 h3 Q fun v z R2 P2 H2 k1 k2 k3 k4 => q v z R2 P2 H2 k1 k2 k3 (h4.trans k4)⟩
theorem ae_callTy (hm : X.mg x = none) (hv : bootBuiltins x = some (.type T)) (h : AEs X ex (e :: es) δ R fun xs R1 => CA X (.type T) xs R1 post) (hg : Gl X x := by rfl) (hn : x ≠ "__name__" := by decide) (hdb : (x == ("__debug__" : Str)) = false := by decide)
    (he : starEach (e :: es) X.env = (false, eval e X.env) :: starEach es X.env := by rfl) (hpl : (backTo pos (starEach es X.env)).any (·.1) = false := by rfl) : AE X ex (.Call (.Name x p2) (e :: es) [] pos) δ R post := fun σ P H hS hW hT Q q => by
  refine wE_of (pe_callTy callR_ex hg hm hv pa_w hn hdb he hpl) ?_
  refine h σ P H hS hW hT _ fun vs xs R1 P1 H1 h1 h2 h3 h4 => ?_
  obtain ⟨r, hr, k⟩ := h1
  exact ⟨r, hr, k P1 H1 vs h2 h3 Q fun v z R2 P2 H2 k1 k2 k3 k4 => q v z R2 P2 H2 k1 k2 k3 (h4.trans k4)⟩
/-- a module's name for a built-in function -/
theorem ae_callBfun (hm : X.mg x = some (.builtin id)) (h : AEs X ex (e :: es) δ R fun xs R1 => CA X (.builtin id) xs R1 post) (hg : Gl X x := by rfl) (hdb : (x == ("__debug__" : Str)) = false := by decide)
    (he : starEach (e :: es) X.env = (false, eval e X.env) :: starEach es X.env := by rfl) (hpl : (backTo pos (starEach es X.env)).any (·.1) = false := by rfl) : AE X ex (.Call (.Name x p2) (e :: es) [] pos) δ R post := fun σ P H hS hW hT Q q => by
  refine wE_of (pe_callBfun callR_ex hg hm pa_w hdb he hpl) ?_
  refine h σ P H hS hW hT _ fun vs xs R1 P1 H1 h1 h2 h3 h4 => ?_
  obtain ⟨r, hr, k⟩ := h1
  exact ⟨r, hr, k P1 H1 vs h2 h3 Q fun v z R2 P2 H2 k1 k2 k3 k4 => q v z R2 P2 H2 k1 k2 k3 (h4.trans k4)⟩
theorem pav1 {K : PySem.W.Frag} {P : Hp} {vs : List V} {a : A} (h : PAv K P vs [a]) : ∃ v, vs = [v] ∧ Av K P v a := by
  cases h with
  | cons h t => cases t; exact ⟨_, rfl, h⟩
theorem pav2 {K : PySem.W.Frag} {P : Hp} {vs : List V} {a b : A} (h : PAv K P vs [a, b]) : ∃ v w, vs = [v, w] ∧ Av K P v a ∧ Av K P w b := by
  cases h with
  | cons h t => obtain ⟨w, rfl, h2⟩ := pav1 t; exact ⟨_, w, rfl, h, h2⟩
/-- an answer that is known, the world as it was -/
theorem CA.val1 {f : Value} {r : List V → Hp → VK → Prop} {z : A} {v : V} (hr : CallR X f r) (k : post z R) (hz : ∀ P, Av X.K P v z) (h : ∀ (P H : Hp) (y : V), Av X.K P y c → Wd X.K R P H → ∀ Q : VK, Q v H → r [y] H Q) : CA X f [c] R post :=
  ⟨r, hr, fun P H xs ha hW Q q => by
    obtain ⟨y, rfl, h1⟩ := pav1 ha
    exact h P H y h1 hW Q (q _ _ R P H k (hz P) hW Stp.refl)⟩
theorem ca_len_lst (hs : Sel R p (.lst xs) U) (k : post (.i (xs.length : Int)) R) : CA X (.builtin "len") [.ptr p] R post :=
  CA.val1 call_len_seq k (fun _ => aInt) fun P H y ha hW Q q => by
    cases (show y = .ref p from ha)
    obtain ⟨vs, h1, h2⟩ := hW.get hs
    exact ⟨p, vs, rfl, .inl (SqL.of h1), by rw [h2.length]; exact q⟩
theorem ca_len_l (k : post (.i (ds.length : Int)) R) : CA X (.builtin "len") [.l ds] R post :=
  CA.val1 call_len_seq k (fun _ => aInt) fun P H y ha hW Q q => by
    have ha : Dp X.K P y (.list ds) := ha
    cases ha with
    | lst hs hd => exact ⟨_, _, rfl, .inl (hW.sub.seq hs), by rw [dpAll_len hd]; exact q⟩
theorem ca_len_t (k : post (.i (ds.length : Int)) R) : CA X (.builtin "len") [.t ds] R post :=
  CA.val1 call_len_seq k (fun _ => aInt) fun P H y ha hW Q q => by
    have ha : Dp X.K P y (.tuple ds) := ha
    cases ha with
    | tup hs hd => exact ⟨_, _, rfl, .inr (sqT_mono hW.sub hs), by rw [dpAll_len hd]; exact q⟩
theorem ca_len_s {z : Str} (hz : z.length ≤ sizeLine) (k : post (.i (z.length : Int)) R) : CA X (.builtin "len") [.s z] R post :=
  CA.val1 call_len_str k (fun _ => aInt) fun P H y ha hW Q q => by cases ha; exact ⟨z, rfl, hz, q⟩
theorem ca_int (k : post (.i m) R) : CA X (.type "int") [.i m] R post := CA.val1 call_int1 k (fun _ => aInt) fun P H y ha hW Q q => by cases ha; exact .inl ⟨m, rfl, q⟩
theorem ca_intB {z : Bool} (k : post (.i (if z then 1 else 0)) R) : CA X (.type "int") [.b z] R post := CA.val1 call_int1 k (fun _ => aInt) fun P H y ha hW Q q => by cases ha; exact .inr ⟨z, rfl, q⟩
theorem ca_abs (k : post (.i (if m < 0 then -m else m)) R) : CA X (.builtin "abs") [.i m] R post := CA.val1 call_abs k (fun _ => aInt) fun P H y ha hW Q q => by cases ha; exact ⟨m, rfl, q⟩
theorem ca_gcd (k : post (.i ((Nat.gcd m.natAbs n.natAbs : Nat) : Int)) R) : CA X (.builtin "math.gcd") [.i m, .i n] R post :=
  ⟨_, cr_gcd, fun P H xs ha hW Q q => by
    obtain ⟨v, w, rfl, h1, h2⟩ := pav2 ha
    cases h1; cases h2
    exact ⟨m, n, rfl, q _ _ R P H k aInt hW Stp.refl⟩⟩
theorem ca_min2 (hc : X.calm = true) (k : post (.i (if n < m then n else m)) R) : CA X (.builtin "min") [.i m, .i n] R post :=
  ⟨_, call_min2 hc, fun P H xs ha hW Q q => by
    obtain ⟨v, w, rfl, h1, h2⟩ := pav2 ha
    cases h1; cases h2
    exact ⟨m, n, rfl, q _ _ R P H k aInt hW Stp.refl⟩⟩
theorem ca_max2 (hc : X.calm = true) (k : post (.i (if n > m then n else m)) R) : CA X (.builtin "max") [.i m, .i n] R post :=
  ⟨_, call_max2 hc, fun P H xs ha hW Q q => by
    obtain ⟨v, w, rfl, h1, h2⟩ := pav2 ha
    cases h1; cases h2
    exact ⟨m, n, rfl, q _ _ R P H k aInt hW Stp.refl⟩⟩
/-- list(xs) -/
theorem ca_list_l (k : ∀ q, post (.ptr q) ((q, .lst (ds.map .d)) :: R)) : CA X (.type "list") [.l ds] R post :=
  ⟨_, call_list_of, fun P H xs ha hW Q q => by
    obtain ⟨y, rfl, h1⟩ := pav1 ha
    have h1 : Dp X.K P y (.list ds) := h1
    cases h1 with
    | lst hs hd => exact ⟨_, _, rfl, .inl (hW.sub.seq hs), fun r hr => q _ _ _ P _ (k r) rfl (hW.new hr ⟨_, upd_same, dpAll_pav hd⟩) (stp_new hr)⟩⟩
theorem ca_list_t (k : ∀ q, post (.ptr q) ((q, .lst (ds.map .d)) :: R)) : CA X (.type "list") [.t ds] R post :=
  ⟨_, call_list_of, fun P H xs ha hW Q q => by
    obtain ⟨y, rfl, h1⟩ := pav1 ha
    have h1 : Dp X.K P y (.tuple ds) := h1
    cases h1 with
    | tup hs hd => exact ⟨_, _, rfl, .inr (sqT_mono hW.sub hs), fun r hr => q _ _ _ P _ (k r) rfl (hW.new hr ⟨_, upd_same, dpAll_pav hd⟩) (stp_new hr)⟩⟩
theorem ca_list_lst (hs : Sel R p (.lst xs) U) (k : ∀ q, post (.ptr q) ((q, .lst xs) :: R)) : CA X (.type "list") [.ptr p] R post :=
  ⟨_, call_list_of, fun P H ys ha hW Q q => by
    obtain ⟨y, rfl, h1⟩ := pav1 ha
    cases (show y = .ref p from h1)
    obtain ⟨vs, h2, h3⟩ := hW.get hs
    exact ⟨p, vs, rfl, .inl (SqL.of h2), fun r hr => q _ _ _ P _ (k r) rfl (hW.new hr ⟨_, upd_same, h3⟩) (stp_new hr)⟩⟩
/-- tuple(xs) of a list of data: the list as it is -/
theorem ca_tuple_lst (hs : Sel R p (.lst xs) U) (hd : AsD xs ds) (k : post (.t ds) R) : CA X (.type "tuple") [.ptr p] R post :=
  ⟨_, call_tuple_of, fun P H ys ha hW Q q => by
    obtain ⟨y, rfl, h1⟩ := pav1 ha
    cases (show y = .ref p from h1)
    obtain ⟨vs, h2, h3⟩ := hW.get hs
    obtain rfl := hd.eq
    refine ⟨p, vs, rfl, .inl ⟨SqL.of h2, fun r hr => ?_⟩⟩
    have s1 := stp_pure (o := .tup vs) hW hr
    exact q _ _ R _ _ k (Dp.tup (SqT.of upd_same) (dpAll_mono s1.ex (pav_dpAll h3))) (hW.pure hr) s1⟩
theorem ca_tuple_l (k : post (.t ds) R) : CA X (.type "tuple") [.l ds] R post :=
  ⟨_, call_tuple_of, fun P H ys ha hW Q q => by
    obtain ⟨y, rfl, h1⟩ := pav1 ha
    have h1 : Dp X.K P y (.list ds) := h1
    cases h1 with
    | @lst a0 vs0 ds0 hs hd =>
      refine ⟨_, _, rfl, .inl ⟨hW.sub.seq hs, fun r hr => ?_⟩⟩
      have s1 := stp_pure (o := .tup vs0) hW hr
      exact q _ _ R _ _ k (Dp.tup (SqT.of upd_same) (dpAll_mono s1.ex hd)) (hW.pure hr) s1⟩
theorem ca_tuple_t (k : post (.t ds) R) : CA X (.type "tuple") [.t ds] R post :=
  ⟨_, call_tuple_of, fun P H ys ha hW Q q => by
    obtain ⟨y, rfl, h1⟩ := pav1 ha
    have h0 := h1
    have h1 : Dp X.K P y (.tuple ds) := h1
    cases h1 with
    | tup hs hd => exact ⟨_, _, rfl, .inr ⟨sqT_mono hW.sub hs, q _ _ R P H k h0 hW Stp.refl⟩⟩⟩
theorem ints_v {K : PySem.W.Frag} {P : Hp} : ∀ {ns : List Int} {vs : List V}, PAv K P vs (ns.map A.i) → vs = ns.map V.int
  | [], _, h => by cases h; rfl
  | _ :: _, _, h => by
    cases h with
    | cons h t => rw [av_i' h, ints_v t]; rfl
where av_i' {K : PySem.W.Frag} {P : Hp} {v : V} {n : Int} (h : Av K P v (.i n)) : v = .int n := by cases h; rfl
theorem ints_d {K : PySem.W.Frag} {P : Hp} {ns : List Int} {vs : List V} (h : DpAll K P vs (ns.map PyData.int)) : vs = ns.map V.int := ints_v (P := P) (K := K) (by
  have := dpAll_pav h
  rwa [List.map_map] at this)
theorem ca_sum_lst {ns : List Int} (hc : X.calm = true) (hs : Sel R p (.lst (ns.map A.i)) U) (k : post (.i ns.sum) R) : CA X (.builtin "sum") [.ptr p] R post :=
  CA.val1 (cr_sum hc) k (fun _ => aInt) fun P H y ha hW Q q => by
    cases (show y = .ref p from ha)
    obtain ⟨vs, h1, h2⟩ := hW.get hs
    obtain rfl := ints_v h2
    exact ⟨p, ns, rfl, SqL.of h1, q⟩
theorem ca_sum_l {ns : List Int} (hc : X.calm = true) (k : post (.i ns.sum) R) : CA X (.builtin "sum") [.l (ns.map .int)] R post :=
  CA.val1 (cr_sum hc) k (fun _ => aInt) fun P H y ha hW Q q => by
    have ha : Dp X.K P y (.list (ns.map .int)) := ha
    cases ha with
    | lst hs hd =>
      obtain rfl := ints_d hd
      exact ⟨_, ns, rfl, hW.sub.seq hs, q⟩
end
end AL

namespace AL
open PySem L2 PySem.Spec PyProof.Rows

theorem aPtr {K : PySem.W.Frag} {P : Hp} {p : Addr} : Av K P (.ref p) (.ptr p) := rfl
/-! ### promises -/
/-- arguments, resources, what is wanted of the answer, of an exception -/
abbrev ASp := List A → RL → (A → RL → Prop) → (Value → Option Addr → RL → Prop) → Prop
def spOf (K : PySem.W.Frag) (f : ASp) : Sp := fun vs H Q E => ∃ xs R P, PAv K P vs xs ∧ Wd K R P H ∧
  f xs R (fun x R' => ∀ v P' H', Av K P' v x → Wd K R' P' H' → Stp R R' P H P' H' → Q v H') (fun cls d R' => ∀ P' H', Wd K R' P' H' → Stp R R' P H P' H' → E cls d H')
/-- the callee's part of the resources -/
inductive Spl : RL → RL → RL → Prop
  | nil {R : RL} : Spl R [] R
  | cons {R R1 R0 Rr : RL} {a : Addr} {r : Res} : Rem R a r R1 → Spl R1 R0 Rr → Spl R ((a, r) :: R0) Rr
theorem Spl.mem {R R0 Rr : RL} (h : Spl R R0 Rr) : ∀ x, x ∈ R ↔ x ∈ R0 ∨ x ∈ Rr := by
  induction h with
  | nil => intro x; simp
  | cons h t ih => intro x; rw [h.mem, ih, List.mem_cons, or_assoc]
theorem dom_of {R R' : RL} (h : ∀ x, x ∈ R → x ∈ R') {a : Addr} (m : a ∈ dom R) : a ∈ dom R' := by
  obtain ⟨y, hy, e⟩ := List.mem_map.mp m
  exact List.mem_map.mpr ⟨y, h y hy, e⟩
theorem Spl.nd {R R0 Rr : RL} (h : Spl R R0 Rr) : (dom R).Nodup → (dom R0).Nodup ∧ (dom Rr).Nodup ∧ ∀ a, a ∈ dom R0 → a ∉ dom Rr := by
  induction h with
  | nil => intro n; exact ⟨List.nodup_nil, n, fun a m => absurd m (by simp)⟩
  | cons h t ih =>
    intro n
    obtain ⟨n1, n2⟩ := h.nd n
    obtain ⟨i1, i2, i3⟩ := ih n2
    refine ⟨List.nodup_cons.mpr ⟨fun m => n1 (dom_of (fun x hx => (t.mem x).mpr (.inl hx)) m), i1⟩, i2, fun b m z => ?_⟩
    rcases List.mem_cons.mp m with e | m
    · subst e; exact n1 (dom_of (fun x hx => (t.mem x).mpr (.inr hx)) z)
    · exact i3 b m z
theorem Spl.le0 {R R0 Rr : RL} (h : Spl R R0 Rr) : Le R R0 := ⟨fun x m => (h.mem x).mpr (.inl m), fun n => (h.nd n).1⟩
theorem wd_back {K : PySem.W.Frag} {R R0 Rr R0' : RL} {P H P' H' : Hp} (h : Spl R R0 Rr) (w : Wd K R P H) (w' : Wd K R0' P' H') (s : Stp R0 R0' P H P' H') : Wd K (R0' ++ Rr) P' H' ∧ Stp R (R0' ++ Rr) P H P' H' := by
  obtain ⟨n0, nr, dj⟩ := h.nd w.nd
  have hr : ∀ a, a ∈ dom Rr → ∃ o, H a = some o := fun a m => by
    obtain ⟨⟨b, r⟩, hm, e⟩ := List.mem_map.mp m
    obtain rfl : b = a := e
    exact res_some (w.has _ _ ((h.mem _).mpr (.inr hm)))
  have dm : ∀ a, a ∈ dom (R0' ++ Rr) → a ∈ dom R0' ∨ a ∈ dom Rr := fun a m => by
    rw [show dom (R0' ++ Rr) = dom R0' ++ dom Rr from List.map_append] at m
    exact List.mem_append.mp m
  have djr : ∀ a, a ∈ dom R0' → a ∉ dom Rr := fun a m z => by
    rcases s.gr a m with q | q
    · exact dj a q z
    · obtain ⟨o, e⟩ := hr a z
      rw [q] at e; cases e
  refine ⟨⟨w'.sub, fun a m => ?_, fun a r m => ?_, ?_⟩, ⟨s.ex, fun a o e m => s.fr a o e fun z => m (dom_of h.le0.sub z), fun a o e => ?_, fun a m => ?_⟩⟩
  · rcases dm a m with m | m
    · exact w'.off a m
    · cases q : P' a with
      | none => rfl
      | some o =>
        rcases s.nw a o q with z | z | z
        · rw [w.off a (dom_of (fun x hx => (h.mem x).mpr (.inr hx)) m)] at z; cases z
        · obtain ⟨o', e⟩ := hr a m
          rw [z] at e; cases e
        · exact absurd m (dj a z)
  · rcases List.mem_append.mp m with m | m
    · exact w'.has a r m
    · exact res_mono s.ex (fun o e => s.fr a o e fun z => dj a z (mem_dom m)) (w.has a r ((h.mem _).mpr (.inr m)))
  · rw [show dom (R0' ++ Rr) = dom R0' ++ dom Rr from List.map_append]
    exact List.nodup_append.mpr ⟨w'.nd, nr, fun a m b m' e => djr a m (by rw [e]; exact m')⟩
  · rcases s.nw a o e with z | z | z
    · exact .inl z
    · exact .inr (.inl z)
    · exact .inr (.inr (dom_of h.le0.sub z))
  · rcases dm a m with m | m
    · exact (s.gr a m).imp (fun z => dom_of h.le0.sub z) id
    · exact .inl (dom_of (fun x hx => (h.mem x).mpr (.inr hx)) m)
def FSp (sp : ASp) (xs : List A) (R : RL) (post : A → RL → Prop) (exc : Value → Option Addr → RL → Prop) : Prop :=
  ∃ R0 Rr, Spl R R0 Rr ∧ sp xs R0 (fun x R' => post x (R' ++ Rr)) (fun cls d R' => exc cls d (R' ++ Rr))
/-- monotone promises (all of ours) -/
def Mon (sp : ASp) : Prop := ∀ xs R p p' e e', (∀ x R', p x R' → p' x R') → (∀ c d R', e c d R' → e' c d R') → sp xs R p e → sp xs R p' e'
structure Cal (P : Program) (w : World) (K : PySem.W.Frag) (mg : Str → Option Value) (base : Heap) (k : Nat) (x : Str) (ps : List Str) (sp : ASp) : Prop where
  mon : Mon sp
  ex : ∃ f fd, mg x = some (.ref f) ∧ PySem.W.keepIn K (.ref f) = true ∧ Binds K fd ps [] ∧ FnOk P w K mg base (L2.CX P w) k f fd ps (spOf K sp)
structure Mcal (P : Program) (w : World) (K : PySem.W.Frag) (mg : Str → Option Value) (base : Heap) (k : Nat) (C : Addr) (m : Str) (ps : List Str) (sp : ASp) : Prop where
  mon : Mon sp
  cls : Cls K C
  ex : ∃ f fd, Meth K C m f ∧ Binds K fd ps [] ∧ FnOk P w K mg base (L2.CX P w) k f fd ps (spOf K sp)
/-- a class that is made: its name, its __init__ -/
structure Kcal (P : Program) (w : World) (K : PySem.W.Frag) (mg : Str → Option Value) (base : Heap) (k : Nat) (x : Str) (C : Addr) (ps : List Str) (sp : ASp) : Prop where
  mon : Mon sp
  ex : ∃ f fd, Mk K C f ∧ mg x = some (.ref C) ∧ Binds K fd ps [] ∧ FnOk P w K mg base (L2.CX P w) k f fd ps (spOf K sp)
def putFA : Str → A → List (Str × A) → List (Str × A)
  | f, v, [] => [(f, v)]
  | f, v, (g, w) :: r => if g = f then (g, v) :: r else (g, w) :: putFA f v r
/-- by what x is: a field of an instance; storing it; a method; a list -/
def FldA (X : Cx) (f : Str) (x : A) (R : RL) (post : A → RL → Prop) : Prop := ∃ p C fs U c, x = .ptr p ∧ Sel R p (.ins C fs) U ∧ Cls X.K C ∧ NoAttr X.K C f ∧ fs.lookup f = some c ∧ post c R
def FstA (X : Cx) (f : Str) (y x : A) (R : RL) (q : RL → Prop) : Prop := ∃ p C fs U, x = .ptr p ∧ Sel R p (.ins C fs) U ∧ Cls X.K C ∧ NoAttr X.K C f ∧ fs.length < 1000 ∧ q (U (.ins C (putFA f y fs)))
def MthA (C : Addr) (m : Str) (x : A) (R : RL) (q : Addr → Prop) : Prop := ∃ p fs U, x = .ptr p ∧ Sel R p (.ins C fs) U ∧ fs.lookup m = none ∧ q p
def LstA (x : A) (R : RL) (q : Addr → Prop) : Prop := ∃ p xs U, x = .ptr p ∧ Sel R p (.lst xs) U ∧ q p
section
variable {X : Cx} {ex : EX} {δ δ' : SL} {R R' : RL} {D : AEnds} {e o : Expr} {es : List Expr} {pos p2 apos : Pos} {post : A → RL → Prop} {k n : Nat} {x m f : Str} {ps : List Str} {sp : ASp} {C : Addr}
theorem sp_run (mon : Mon sp) {xs : List A} {R1 : RL} {P H P1 H1 : Hp} {σ : L2.St} {vs : List V} {Q : VK} {W : WX} (hS : Sl X P σ δ) (s : Stp R R1 P H P1 H1) (w : Wd X.K R1 P1 H1) (ha : PAv X.K P1 vs xs)
    (hW : ∀ cls d σ H', (∃ δ R' P', ex cls d δ R' ∧ Sl X P' σ δ ∧ Wd X.K R' P' H' ∧ Stp R R' P H P' H') → W cls d σ H')
    (h : FSp sp xs R1 post (fun cls d R' => ex cls d δ R')) (q : ∀ v x R' P' H', post x R' → Av X.K P' v x → Wd X.K R' P' H' → Stp R R' P H P' H' → Q v H') : spOf X.K sp vs H1 Q (WE W σ) := by
  obtain ⟨R0, Rr, hl, hs⟩ := h
  refine ⟨xs, R0, P1, ha, w.le hl.le0, mon _ _ _ _ _ _ (fun x R' k v P' H' a1 a2 a3 => ?_) (fun cls d R' k P' H' a2 a3 => ?_) hs⟩
  · obtain ⟨w', s'⟩ := wd_back hl w a2 a3
    exact q v x _ P' H' k a1 w' (s.trans s')
  · obtain ⟨w', s'⟩ := wd_back hl w a2 a3
    exact hW cls d σ H' ⟨δ, _, P', k, hS.mono (s.trans s').ex, w', s.trans s'⟩
theorem ae_call (c : Cal X.prog X.w X.K X.mg X.base k x ps sp) (hr : Room n X.A) (hk : k ≤ n) (h : AEs X ex (e :: es) δ R fun xs R1 => FSp sp xs R1 post (fun cls d R' => ex cls d δ R'))
    (hg : Gl X x := by rfl) (hdb : (x == ("__debug__" : Str)) = false := by decide) (he : starEach (e :: es) X.env = (false, eval e X.env) :: starEach es X.env := by rfl) (hpl : (backTo pos (starEach es X.env)).any (·.1) = false := by rfl) :
    AE X ex (.Call (.Name x p2) (e :: es) [] pos) δ R post := fun σ P H hS hW hT Q q => by
  obtain ⟨f, fd, h1, h2, h3, h4⟩ := c.ex
  refine wE_of (pe_callS h4 (hr.mono hk) hg h1 h2 h3 (fun σ => passAt hT σ) pa_w hdb he hpl) ?_
  refine h σ P H hS hW hT _ fun vs xs R1 P1 H1 k1 k2 k3 k4 => ?_
  exact sp_run c.mon hS k4 k3 k2 (fun _ _ _ _ z => z) k1 q
/-- o.m(..) -/
theorem ae_meth {pl : Sem Bool} (c : Mcal X.prog X.w X.K X.mg X.base k C m ps sp) (hr : Room n X.A) (hk : k ≤ n)
    (h : AE X ex o δ R fun x R1 => MthA C m x R1 fun p => AEs X ex (e :: es) δ R1 fun xs R2 => FSp sp (.ptr p :: xs) R2 post (fun cls d R' => ex cls d δ R'))
    (hst : starEach (e :: es) X.env = (false, eval e X.env) :: starEach es X.env := by rfl) (hpl : (backTo pos (starEach es X.env)).any (·.1) = false := by rfl)
    (ht : eval (.Call (.Attribute o m apos) (e :: es) [] pos) X.env = (do
      let ov ← eval o X.env
      standAt apos.atName
      let (f, first) ← holding [ov] (getMethod ov m pl)
      callWith pos f first (backTo pos (starEach (e :: es) X.env)) (backToKw pos (keywordEach [] X.env))) := by rfl) :
    AE X ex (.Call (.Attribute o m apos) (e :: es) [] pos) δ R post := fun σ P H hS hW hT Q q pins s I => by
  obtain ⟨f, fd, h1, h3, h4⟩ := c.ex
  refine PySem.W.methodCall_KW (pl := pl) (thn (h σ P H hS hW hT (fun v H1 => ∃ x R1 P1, (∃ p fs U, x = A.ptr p ∧ Sel R1 p (.ins C fs) U ∧ fs.lookup m = none ∧ AEs X ex (e :: es) δ R1 fun xs R2 => FSp sp (.ptr p :: xs) R2 post (fun cls d R' => ex cls d δ R')) ∧ Av X.K P1 v x ∧ Wd X.K R1 P1 H1 ∧ Stp R R1 P H P1 H1)
    (fun v x R1 P1 H1 k1 k2 k3 k4 => ⟨x, R1, P1, k1, k2, k3, k4⟩) pins s I) fun u s1 ⟨v, H1, I1, rx, x, R1, P1, ⟨p, fs, U, ex1, hs, hl, hA⟩, k2, k3, k4⟩ => ?_) ht
  subst ex1
  cases (show v = .ref p from k2)
  obtain rfl : u = Value.ref p := rx
  obtain ⟨dx, ws, hp, hw⟩ := k3.get hs
  have hl' : ws.lookup m = none := by
    clear hs hp k3
    induction hw with
    | nil => rfl
    | cons q t ih =>
      rename_i a b _ _
      rw [List.lookup_cons] at hl ⊢
      rw [q.1]
      split at hl
      · cases hl
      · rename_i z; exact ih hl
  refine getmeth_ok I1 hp c.cls h1 hl' ?_
  refine PySem.W.callWith_K (first := [.ref p]) (h₀ := X.base) I.ok.mod.kin h1.kp (thn (hA σ P1 H1 (hS.mono k4.ex) k3 (hT.step k4) (fun vs H2 => ∃ xs R2 P2, FSp sp (.ptr p :: xs) R2 post (fun cls d R' => ex cls d δ R') ∧ PAv X.K P2 vs xs ∧ Wd X.K R2 P2 H2 ∧ Stp R1 R2 P1 H1 P2 H2)
    (fun vs xs R2 P2 H2 m1 m2 m3 m4 => ⟨xs, R2, P2, m1, m2, m3, m4⟩) pos pins s1 I1) fun us s2 ⟨vs, H2, I2, r, xs, R2, P2, m1, m2, m3, m4⟩ => ⟨I2.kIn, ?_⟩) hst hpl
  refine run_fnS (us := .ref p :: us) (vs := .ref p :: vs) h4 (hr.mono hk) h3 (passAt hT σ) I2 (.cons rfl r) ?_
  exact sp_run c.mon hS (k4.trans m4) m3 (.cons aPtr m2) (fun _ _ _ _ z => z) m1 q
theorem ae_meth0 {pl : Sem Bool} (c : Mcal X.prog X.w X.K X.mg X.base k C m ps sp) (hr : Room n X.A) (hk : k ≤ n)
    (h : AE X ex o δ R fun x R1 => MthA C m x R1 fun p => FSp sp [.ptr p] R1 post (fun cls d R' => ex cls d δ R'))
    (ht : eval (.Call (.Attribute o m apos) [] [] pos) X.env = (do
      let ov ← eval o X.env
      standAt apos.atName
      let (f, first) ← holding [ov] (getMethod ov m pl)
      callWith pos f first (backTo pos (starEach [] X.env)) (backToKw pos (keywordEach [] X.env))) := by rfl) :
    AE X ex (.Call (.Attribute o m apos) [] [] pos) δ R post := fun σ P H hS hW hT Q q pins s I => by
  obtain ⟨f, fd, h1, h3, h4⟩ := c.ex
  refine PySem.W.methodCall_KW (pl := pl) (thn (h σ P H hS hW hT (fun v H1 => ∃ x R1 P1, (∃ p fs U, x = A.ptr p ∧ Sel R1 p (.ins C fs) U ∧ fs.lookup m = none ∧ FSp sp [.ptr p] R1 post (fun cls d R' => ex cls d δ R')) ∧ Av X.K P1 v x ∧ Wd X.K R1 P1 H1 ∧ Stp R R1 P H P1 H1)
    (fun v x R1 P1 H1 k1 k2 k3 k4 => ⟨x, R1, P1, k1, k2, k3, k4⟩) pins s I) fun u s1 ⟨v, H1, I1, rx, x, R1, P1, ⟨p, fs, U, ex1, hs, hl, hA⟩, k2, k3, k4⟩ => ?_) ht
  subst ex1
  cases (show v = .ref p from k2)
  obtain rfl : u = Value.ref p := rx
  obtain ⟨dx, ws, hp, hw⟩ := k3.get hs
  have hl' : ws.lookup m = none := by
    clear hs hp k3
    induction hw with
    | nil => rfl
    | cons q t ih =>
      rename_i a b _ _
      rw [List.lookup_cons] at hl ⊢
      rw [q.1]
      split at hl
      · cases hl
      · rename_i z; exact ih hl
  refine getmeth_ok I1 hp c.cls h1 hl' ?_
  refine PySem.W.callWith_K0 (first := [.ref p]) I1.kIn h1.kp (run_fnS (us := [.ref p]) (vs := [.ref p]) h4 (hr.mono hk) h3 (passAt hT σ) I1 (.cons rfl .nil) ?_)
  exact sp_run c.mon hS k4 k3 (.cons aPtr .nil) (fun _ _ _ _ z => z) hA q
theorem wd_made {K : PySem.W.Frag} {P H : Hp} {x dx C : Addr} (w : Wd K R P H) (hx : H x = none) (hd : H dx = none) (ne : dx ≠ x) : Wd K ((x, .ins C []) :: R) P (upd (upd H dx (.own x)) x (.ins C dx [])) ∧ Stp R ((x, .ins C []) :: R) P H P (upd (upd H dx (.own x)) x (.ins C dx [])) := by
  have rn : ∀ {b : Addr}, b ∈ dom R → b ≠ x ∧ b ≠ dx := fun {b} m => by
    obtain ⟨⟨b', t⟩, hm, e⟩ := List.mem_map.mp m
    obtain rfl : b' = b := e
    obtain ⟨u, q⟩ := res_some (w.has _ _ hm)
    exact ⟨ne_of_none q hx, ne_of_none q hd⟩
  have up : ∀ {b : Addr} {u : HO}, H b = some u → upd (upd H dx (.own x)) x (.ins C dx []) b = some u := fun {b u} e => by
    rw [upd_ne (ne_of_none e hx), upd_ne (ne_of_none e hd)]; exact e
  refine ⟨⟨fun b u e => up (w.sub b u e), fun b m => ?_, fun b t m => ?_, List.nodup_cons.mpr ⟨fun m => (rn m).1 rfl, w.nd⟩⟩, ⟨Same.refl _, fun b u e _ => up e, fun _ _ e => .inl e, fun b m => (List.mem_cons.mp m).elim (fun z => .inr (by rw [z]; exact hx)) .inl⟩⟩
  · rcases List.mem_cons.mp m with e | m
    · rw [e]; exact w.pnone hx
    · exact w.off b m
  · rcases List.mem_cons.mp m with e | m
    · cases e; exact ⟨dx, [], upd_same, .nil⟩
    · exact res_mono (Same.refl _) (fun u e => up e) (w.has b t m)
/-- C(..), C() : a new instance, then __init__ -/
theorem ae_make (c : Kcal X.prog X.w X.K X.mg X.base k x C ps sp) (hr : Room n X.A) (hk : k + 1 ≤ n)
    (h : AEs X ex (e :: es) δ R fun xs R1 => ∀ p, FSp sp (.ptr p :: xs) ((p, .ins C []) :: R1) (fun v R2 => v = .n ∧ post (.ptr p) R2) (fun _ _ _ => False))
    (hg : Gl X x := by rfl) (hdb : (x == ("__debug__" : Str)) = false := by decide) (he : starEach (e :: es) X.env = (false, eval e X.env) :: starEach es X.env := by rfl) (hpl : (backTo pos (starEach es X.env)).any (·.1) = false := by rfl) :
    AE X ex (.Call (.Name x p2) (e :: es) [] pos) δ R post := fun σ P H hS hW hT Q q => by
  obtain ⟨f, fd, M, h2, h3, h4⟩ := c.ex
  refine wE_of (pe_make M h4 (hr.mono hk) hg h2 h3 .nil passL pa_w hdb he hpl) ?_
  refine h σ P H hS hW hT _ fun vs xs R1 P1 H1 k1 k2 k3 k4 => ?_
  intro x dx nx nd ne
  obtain ⟨w1, s1⟩ := wd_made (C := C) k3 nx nd ne
  obtain ⟨R0, Rr, hl, hs⟩ := k1 x
  rw [List.append_nil]
  refine ⟨_, R0, P1, .cons aPtr k2, w1.le hl.le0, c.mon _ _ _ _ _ _ (fun y R' z v P' H' a1 a2 a3 => ?_) (fun cls d R' z P' H' a2 a3 => z) hs⟩
  obtain ⟨rfl, z⟩ := z
  cases a1
  obtain ⟨w', s'⟩ := wd_back hl w1 a2 a3
  exact ⟨rfl, q _ _ _ P' H' z rfl w' ((k4.trans s1).trans s')⟩
theorem ae_make0 (c : Kcal X.prog X.w X.K X.mg X.base k x C ps sp) (hr : Room n X.A) (hk : k + 1 ≤ n)
    (h : ∀ p, FSp sp [.ptr p] ((p, .ins C []) :: R) (fun v R2 => v = .n ∧ post (.ptr p) R2) (fun _ _ _ => False))
    (hg : Gl X x := by rfl) (hdb : (x == ("__debug__" : Str)) = false := by decide) :
    AE X ex (.Call (.Name x p2) [] [] pos) δ R post := fun σ P H hS hW hT Q q => by
  obtain ⟨f, fd, M, h2, h3, h4⟩ := c.ex
  refine wE_of (pe_make0 M h4 (hr.mono hk) hg h2 h3 .nil passL hdb) ?_
  intro x dx nx nd ne
  obtain ⟨w1, s1⟩ := wd_made (C := C) hW nx nd ne
  obtain ⟨R0, Rr, hl, hs⟩ := h x
  refine ⟨_, R0, P, .cons aPtr .nil, w1.le hl.le0, c.mon _ _ _ _ _ _ (fun y R' z v P' H' a1 a2 a3 => ?_) (fun cls d R' z P' H' a2 a3 => z) hs⟩
  obtain ⟨rfl, z⟩ := z
  cases a1
  obtain ⟨w', s'⟩ := wd_back hl w1 a2 a3
  exact ⟨rfl, q _ _ _ P' H' z rfl w' (s1.trans s')⟩

/-! ### fields -/
theorem pkv_lookup {K : PySem.W.Frag} {P : Hp} {ws : List (Str × V)} {fs : List (Str × A)} {c : A} (h : PKv K P ws fs) (e : fs.lookup f = some c) : ∃ v, ws.lookup f = some v ∧ Av K P v c := by
  induction h with
  | nil => cases e
  | cons q t ih =>
    rename_i a b _ _
    rw [List.lookup_cons] at e ⊢
    rw [q.1]
    split at e
    · cases e; exact ⟨_, rfl, q.2⟩
    · exact ih e
theorem ae_fld (hb : attributeBase e f X.env (eval e X.env) = eval e X.env) (h : AE X ex e δ R fun x R1 => FldA X f x R1 post) : AE X ex (.Attribute e f pos) δ R post := fun σ P H hS hW hT Q q => by
  refine wE_of (pe_fld pe_w hb) ?_
  refine h σ P H hS hW hT _ fun v x R1 P1 H1 h1 h2 h3 h4 => ?_
  obtain ⟨p, C, fs, U, c, rfl, hs, hc, hn, hl, k⟩ := h1
  cases (show v = .ref p from h2)
  obtain ⟨dx, ws, hp, hw⟩ := h3.get hs
  obtain ⟨y, ey, hy⟩ := pkv_lookup hw hl
  exact ⟨p, C, dx, ws, y, rfl, hp, hc, hn, ey, q _ _ R1 P1 H1 k hy h3 h4⟩
end
end AL

namespace AL
open PySem L2 PySem.Spec PyProof.Rows

/-! ### stores -/
section
variable {L : List Str} {X : Cx} {ex : EX} {δ δ' : SL} {R R' : RL} {D : AEnds} {e o i : Expr} {es : List Expr} {pos pos' p2 apos cpos : Pos} {post : A → RL → Prop} {f x : Str} {C p : Addr} {xs ys : List A} {U : Res → RL} {a c v : A} {n : Int}
theorem pkv_putF {K : PySem.W.Frag} {P : Hp} {ws : List (Str × V)} {fs : List (Str × A)} {y : V} (h : PKv K P ws fs) (hy : Av K P y c) : PKv K P (putF f y ws) (putFA f c fs) := by
  induction h with
  | nil => exact .cons ⟨rfl, hy⟩ .nil
  | cons q t ih =>
    rename_i a b _ _
    unfold putF putFA
    rw [q.1]
    by_cases z : b.1 = f
    · rw [if_pos z, if_pos z]; exact .cons ⟨rfl, hy⟩ t
    · rw [if_neg z, if_neg z]; exact .cons ⟨rfl, q.2⟩ ih
theorem as_fld (h : AE X ex e δ R fun y R1 => AE X ex o δ R1 fun x R2 => FstA X f y x R2 fun R3 => D.nx δ R3)
    (hs : swapsWith e (some (.Attribute o f pos')) pos.line X.env = Pure.pure false := by rfl) : AS X ex (.Assign [.Attribute o f pos'] e pos) δ R D := fun σ P H hS hW hT => by
  refine wS_of (ps_fld pe_w pe_w hs) ?_
  refine h σ P H hS hW hT _ fun y a R1 P1 H1 h1 h2 h3 h4 => ?_
  refine h1 σ P1 H1 (hS.mono h4.ex) h3 (hT.step h4) _ fun v x R2 P2 H2 k1 k2 k3 k4 => ?_
  obtain ⟨p, C, fs, U, rfl, hs, hc, hn, hl, k⟩ := k1
  cases (show v = .ref p from k2)
  obtain ⟨dx, ws, hp, hw⟩ := k3.get hs
  refine ⟨p, C, dx, ws, rfl, hp, hc, hn, by rw [hw.length]; exact hl, ?_⟩
  exact ⟨δ, _, P2, k, (hS.mono h4.ex).mono k4.ex, k3.put hs ⟨dx, _, upd_same, pkv_putF hw (av_mono k4.ex h2)⟩, (h4.trans k4).trans (stp_put k3 hs)⟩
/-- o[i] = v by values -/
def StA (X : Cx) (o i v : A) (R : RL) (q : RL → Prop) : Prop :=
  ∃ t, PSet X t ∧ ∀ (P H : Hp) (x y z : V), Av X.K P x o → Av X.K P y i → Av X.K P z v → Wd X.K R P H → ∀ Q : Hp → Prop, (∀ R' P' H', q R' → Wd X.K R' P' H' → Stp R R' P H P' H' → Q H') → t x y z H Q
theorem pset_ex : PSet X (fun o i v H Q => ∃ t, PSet X t ∧ t o i v H Q) := by
  rintro pins s σ H o i v ov iv u Q I r1 r2 r3 ⟨t, ht, k⟩
  exact ht pins s σ H o i v ov iv u Q I r1 r2 r3 k
theorem ag_sub {q : SL → RL → Prop} (h : AE X ex o δ R fun x R1 => AE X ex i δ R1 fun y R2 => StA X x y v R2 fun R3 => q δ R3)
    (ha : ∀ v, assign (.Subscript o i pos) X.env v = (do
      let ov ← holding [v] (eval o X.env)
      let iv ← holding [v, ov] (eval i X.env)
      standAt pos
      holding [v, ov, iv] (setItem ov iv v)
      release [v, ov, iv] []) := by intro _; rfl) : AG X ex (.Subscript o i pos) v δ R q := fun σ P H w hS hW hT hv => by
  refine wG_of (pg_sub pe_w pe_w pset_ex ha) ?_
  refine h σ P H hS hW hT _ fun x a R1 P1 H1 h1 h2 h3 h4 => ?_
  refine h1 σ P1 H1 (hS.mono h4.ex) h3 (hT.step h4) _ fun y b R2 P2 H2 k1 k2 k3 k4 => ?_
  obtain ⟨t, ht, k⟩ := k1
  have s2 := h4.trans k4
  exact ⟨t, ht, k P2 H2 x y w (av_mono k4.ex h2) k2 (av_mono s2.ex hv) k3 _ fun R3 P3 H3 m1 m2 m3 => ⟨δ, R3, P3, m1, hS.mono (s2.trans m3).ex, m2, s2.trans m3⟩⟩
theorem sta_lst {j : Nat} {q : RL → Prop} (hs : Sel R p (.lst xs) U) (hj : ixN xs.length n = some j) (k : q (U (.lst (xs.set j v)))) : StA X (.ptr p) (.i n) v R q := ⟨_, set_list, fun P H x y z hx hy hz hW Q c => by
  cases hy
  cases (show x = .ref p from hx)
  obtain ⟨vs, h1, h2⟩ := hW.get hs
  exact ⟨p, vs, n, j, rfl, rfl, h1, by rw [h2.length]; exact hj, c _ P _ k (hW.put hs ⟨_, upd_same, pav_set j h2 hz⟩) (stp_put hW hs)⟩⟩
theorem pset_dict (hu : XU X) : PSet X (fun o i v H Q => ∃ a H', o = .ref a ∧ DPut H a i v H' ∧ Q H') := by
  rintro pins s σ H o i v ov iv u Q I r1 r2 r3 ⟨a, H', rfl, g, q⟩
  obtain rfl : ov = Value.ref a := r1
  exact d_setItem (show X.A.units + 1 < cLine by have := hu; show _; omega) I g r2 r3 fun s4 I4 => ⟨H', I4, q⟩
theorem sta_dK {kvs : List (Key × A)} {ky : Key} {q : RL → Prop} (hu : XU X) (hs : Sel R p (.dK kvs) U) (hi : a = .d (kD ky)) (hl : kvs.length < sizeLine) (k : q (U (.dK (putA kvs ky v)))) : StA X (.ptr p) a v R q := ⟨_, pset_dict hu, fun P H x y z hx hy hz hW Q c => by
  subst hi
  cases (show x = .ref p from hx)
  obtain rfl := kD_v (show Dp X.K P y (kD ky) from hy)
  obtain ⟨ws, h1, h2⟩ := hW.get hs
  exact ⟨p, _, rfl, DPut.k h1 (by rw [h2.length]; exact hl), c _ P _ k (hW.put hs ⟨_, upd_same, pkv_put h2 hz⟩) (stp_put hW hs)⟩⟩
/-- the key a tuple of ints and texts that was made here -/
def TupKey (X : Cx) (R : RL) (a : A) (ky : List Key) : Prop := ∀ (P H : Hp) (w : V), Wd X.K R P H → Av X.K P w a → ∃ t, w = .ref t ∧ H t = some (.tup (ky.map kV))
theorem sta_dT {kvs : List (List Key × A)} {ky : List Key} {q : RL → Prop} (hu : XU X) (hs : Sel R p (.dT kvs) U) (hi : TupKey X R a ky) (hl : kvs.length < sizeLine) (k : q (U (.dT (putA kvs ky v)))) : StA X (.ptr p) a v R q := ⟨_, pset_dict hu, fun P H x y z hx hy hz hW Q c => by
  cases (show x = .ref p from hx)
  obtain ⟨t, rfl, ht⟩ := hi P H y hW hy
  obtain ⟨ws, h1, h2⟩ := hW.get hs
  exact ⟨p, _, rfl, DPut.t h1 ht (by rw [h2.length]; exact hl), c _ P _ k (hW.put hs ⟨_, upd_same, pkv_put h2 hz⟩) (stp_put hW hs)⟩⟩
/-- x op= e -/
theorem as_aug {op : Operator} (hX : XD X L) (hm : x ∈ L) (hl : Lk δ x a) (h : AE X ex e δ R fun y R1 => BA X (inplaceOp op) a y R1 fun z R2 => ∃ δ', Up δ x z δ' ∧ D.nx δ' R2) : AS X ex (.AugAssign (.Name x pos') op e pos) δ R D := fun σ P H hS hW hT => by
  obtain ⟨j, ej⟩ := hl.ix
  obtain ⟨vx, w, h1, h2⟩ := hS.val j x a ej
  have hN : X.N[j]? = some x := by rw [← hS.names, List.getElem?_map, ej]; rfl
  obtain ⟨l1, l2, l3, l4⟩ := hX.loc x hm
  refine wS_of (ps_aug (ti := wOp X (inplaceOp op)) hX.nd hN l1 pe_w op_w l2) ?_
  refine ⟨w, h1, ?_⟩
  refine h σ P H hS hW hT _ fun y b R1 P1 H1 k1 k2 k3 k4 => ?_
  refine k1 P1 H1 w y (av_mono k4.ex h2) k2 k3 _ fun z zz R2 P2 H2 m1 m2 m3 m4 => ?_
  obtain ⟨δ', u, kk⟩ := m1
  have s2 := k4.trans m4
  obtain ⟨j', h3, h4⟩ := (hS.mono s2.ex).up u vx m2
  obtain rfl := nodup_ix hX.nd hN h3
  exact ⟨δ', R2, P2, kk, h4, m3, s2⟩
theorem ba_iadd {m n : Int} (k : post (.i (m + n)) R) : BA X (inplaceOp .Add) (.i m) (.i n) R post := BA.of (r := ipI fun i j => i + j) ip_add fun P H x y ha hb hW Q q => by
  cases ha; cases hb
  exact ⟨m, n, rfl, rfl, q _ _ R P H k aInt hW Stp.refl⟩
theorem ba_isub {m n : Int} (k : post (.i (m - n)) R) : BA X (inplaceOp .Sub) (.i m) (.i n) R post := BA.of (r := ipI fun i j => i - j) ip_sub fun P H x y ha hb hW Q q => by
  cases ha; cases hb
  exact ⟨m, n, rfl, rfl, q _ _ R P H k aInt hW Stp.refl⟩

/-! ### list methods -/
def MA (X : Cx) (id : String) (x : A) (as : List A) (R : RL) (post : A → RL → Prop) : Prop :=
  ∃ r, MtR X id r ∧ ∀ (P H : Hp) (v : V) (vs : List V), Av X.K P v x → PAv X.K P vs as → Wd X.K R P H → ∀ Q : VK, (∀ v z R' P' H', post z R' → Av X.K P' v z → Wd X.K R' P' H' → Stp R R' P H P' H' → Q v H') → r v vs H Q
theorem mtR_ex {id : String} : MtR X id (fun x xs H Q => ∃ r, MtR X id r ∧ r x xs H Q) := by
  rintro pins s σ H x xs v us Q I r1 r2 ⟨r, hr, k⟩
  exact hr pins s σ H x xs v us Q I r1 r2 k
/-- a list's method -/
theorem ae_bmL {name : Str} {id : String} (slot : Slot "list" name id) (hty : typeOf (.builtin id) = pure (.type "method_descriptor"))
    (h : AE X ex o δ R fun x R1 => LstA x R1 fun p => AEs X ex (e :: es) δ R1 fun ys R2 => MA X id (.ptr p) ys R2 post)
    (hbase : attributeBase o name X.env (eval o X.env) = eval o X.env := by rfl)
    (hfew : ((backTo cpos (starEach (e :: es) X.env)).all (fun x => !x.1) && (backToKw cpos (keywordEach [] X.env)).all (fun x => x.1.isSome)
      && decide ((e :: es).length + ([] : List Keyword).length + (if ([] : List Keyword).isEmpty then 0 else 1) < 30)) = true := by rfl)
    (hline : (apos.endLine == cpos.line) = true := by rfl) (hs : starEach (e :: es) X.env = (false, eval e X.env) :: starEach es X.env := by rfl) (hplain : (backTo cpos (starEach es X.env)).any (·.1) = false := by rfl) :
    AE X ex (.Call (.Attribute o name apos) (e :: es) [] cpos) δ R post := fun σ P H hS hW hT Q q => by
  refine wE_of (pe_bm PySem.F.plainAttrs_list slot hty mtR_ex pe_w pa_w hbase hfew hline hs hplain) ?_
  refine h σ P H hS hW hT _ fun v x R1 P1 H1 h1 h2 h3 h4 => ?_
  obtain ⟨p, xs, U, rfl, hs, hA⟩ := h1
  cases (show v = .ref p from h2)
  obtain ⟨vs, e1, e2⟩ := h3.get hs
  refine ⟨.inl ⟨rfl, vs, SqL.of e1⟩, ?_⟩
  refine hA σ P1 H1 (hS.mono h4.ex) h3 (hT.step h4) _ fun ws ys R2 P2 H2 k1 k2 k3 k4 => ?_
  obtain ⟨r, hr, k⟩ := k1
  exact ⟨r, hr, k P2 H2 _ ws rfl k2 k3 Q fun v z R3 P3 H3 m1 m2 m3 m4 => q v z R3 P3 H3 m1 m2 m3 ((h4.trans k4).trans m4)⟩
theorem ae_bmL0 {name : Str} {id : String} (slot : Slot "list" name id) (hty : typeOf (.builtin id) = pure (.type "method_descriptor"))
    (h : AE X ex o δ R fun x R1 => LstA x R1 fun p => MA X id (.ptr p) [] R1 post)
    (hbase : attributeBase o name X.env (eval o X.env) = eval o X.env := by rfl) (hline : (apos.endLine == cpos.line) = true := by rfl) :
    AE X ex (.Call (.Attribute o name apos) [] [] cpos) δ R post := fun σ P H hS hW hT Q q => by
  refine wE_of (pe_bm0 PySem.F.plainAttrs_list slot hty mtR_ex pe_w hbase hline) ?_
  refine h σ P H hS hW hT _ fun v x R1 P1 H1 h1 h2 h3 h4 => ?_
  obtain ⟨p, xs, U, rfl, hs, r, hr, k⟩ := h1
  cases (show v = .ref p from h2)
  obtain ⟨vs, e1, e2⟩ := h3.get hs
  exact ⟨.inl ⟨rfl, vs, SqL.of e1⟩, r, hr, k P1 H1 _ [] rfl .nil h3 Q fun v z R3 P3 H3 m1 m2 m3 m4 => q v z R3 P3 H3 m1 m2 m3 (h4.trans m4)⟩
theorem ma_append (hs : Sel R p (.lst xs) U) (hl : xs.length < sizeLine) (k : post .n (U (.lst (xs ++ [c])))) : MA X "list.append" (.ptr p) [c] R post := ⟨_, mt_append, fun P H v vs hv ha hW Q q => by
  cases (show v = .ref p from hv)
  obtain ⟨y, rfl, hy⟩ := pav1 ha
  obtain ⟨ws, h1, h2⟩ := hW.get hs
  exact ⟨p, ws, y, rfl, rfl, h1, by rw [h2.length]; exact hl, q _ _ _ P _ k .non (hW.put hs ⟨_, upd_same, pav_append h2 (.cons hy .nil)⟩) (stp_put hW hs)⟩⟩
theorem ma_pop (hs : Sel R p (.lst xs) U) (hl : xs[xs.length - 1]? = some c) (k : post c (U (.lst xs.dropLast))) : MA X "list.pop" (.ptr p) [] R post := ⟨_, mt_pop, fun P H v vs hv ha hW Q q => by
  cases (show v = .ref p from hv)
  cases ha
  obtain ⟨ws, h1, h2⟩ := hW.get hs
  obtain ⟨y, e, hy⟩ := pav_get h2 hl
  exact ⟨p, ws, y, rfl, rfl, h1, by rw [h2.length]; exact e, q _ _ _ P _ k hy (hW.put hs ⟨_, upd_same, pav_dropLast h2⟩) (stp_put hW hs)⟩⟩
theorem ma_reverse (hs : Sel R p (.lst xs) U) (k : post .n (U (.lst xs.reverse))) : MA X "list.reverse" (.ptr p) [] R post := ⟨_, mt_reverse, fun P H v vs hv ha hW Q q => by
  cases (show v = .ref p from hv)
  cases ha
  obtain ⟨ws, h1, h2⟩ := hW.get hs
  exact ⟨p, ws, rfl, rfl, h1, q _ _ _ P _ k .non (hW.put hs ⟨_, upd_same, pav_reverse h2⟩) (stp_put hW hs)⟩⟩
/-- xs.append(e), xs.pop() -/
theorem ae_append (h : AE X ex o δ R fun x R1 => LstA x R1 fun p => AEs X ex [e] δ R1 fun ys R2 => MA X "list.append" (.ptr p) ys R2 post)
    (hbase : attributeBase o "append" X.env (eval o X.env) = eval o X.env := by rfl)
    (hfew : ((backTo cpos (starEach [e] X.env)).all (fun x => !x.1) && (backToKw cpos (keywordEach [] X.env)).all (fun x => x.1.isSome)
      && decide (([e] : List Expr).length + ([] : List Keyword).length + (if ([] : List Keyword).isEmpty then 0 else 1) < 30)) = true := by rfl)
    (hline : (apos.endLine == cpos.line) = true := by rfl) (hs : starEach [e] X.env = (false, eval e X.env) :: starEach [] X.env := by rfl) (hplain : (backTo cpos (starEach [] X.env)).any (·.1) = false := by rfl) :
    AE X ex (.Call (.Attribute o "append" apos) [e] [] cpos) δ R post := ae_bmL PySem.F.slot_list_append PySem.F.type_list_append h hbase hfew hline hs hplain
theorem ae_pop (h : AE X ex o δ R fun x R1 => LstA x R1 fun p => MA X "list.pop" (.ptr p) [] R1 post)
    (hbase : attributeBase o "pop" X.env (eval o X.env) = eval o X.env := by rfl) (hline : (apos.endLine == cpos.line) = true := by rfl) :
    AE X ex (.Call (.Attribute o "pop" apos) [] [] cpos) δ R post := ae_bmL0 PySem.F.slot_list_pop PySem.F.type_list_pop h hbase hline
end

/-! ### what is walked -/
structure ItA (K : PySem.W.Frag) (J : It) (xs : List A) (need : RL → Prop) (P0 : Hp) : Prop where
  go : ∀ (i : Nat) R P H, i < xs.length → need R → Same P0 P → Wd K R P H → J.go i H
  stop : ∀ R P H, need R → Same P0 P → Wd K R P H → J.stop xs.length H
  yld : ∀ (i : Nat) R P H v H', need R → Same P0 P → Wd K R P H → i < xs.length → J.yld i H v H' → ∃ P' c, xs[i]? = some c ∧ Av K P' v c ∧ Wd K R P' H' ∧ Stp R R P H P' H'
def wI (X : Cx) (tg iter : Expr) : TI := fun σ H Rr => ∀ pins s, Inv X pins σ H s → wpAny (model X.prog X.w) X.A (eval iter X.env) (fun v s1 => wpAny (model X.prog X.w) X.A (pyIter v) (PIE X pins σ tg Rr) X.xe s1) X.xe s
def AI (X : Cx) (ex : EX) (tg iter : Expr) (δ : SL) (R : RL) (post : List A → (RL → Prop) → RL → Prop) : Prop :=
  ∀ (σ : L2.St) (P H : Hp), Sl X P σ δ → Wd X.K R P H → TX X ex R P H → ∀ Rr : It → Hp → Prop, (∀ J xs need R' P' H', post xs need R' → ItA X.K J xs need P' → Wd X.K R' P' H' → Stp R R' P H P' H' → Rr J H') → wI X tg iter σ H Rr
section
variable {L : List Str} {X : Cx} {ex : EX} {δ δ' : SL} {R R' : RL} {D : AEnds} {e o tg iter c : Expr} {es : List Expr} {body : List Stmt} {pos p2 : Pos} {p : Addr} {xs : List A} {ds : List PyData} {U : Res → RL} {postI : List A → (RL → Prop) → RL → Prop}
theorem pi_w : PI X tg iter (wI X tg iter) := ⟨fun pins s σ H Rr I h => h pins s I⟩
theorem wI_of {t : TI} {σ : L2.St} {H : Hp} {Rr : It → Hp → Prop} (h : PI X tg iter t) (q : t σ H Rr) : wI X tg iter σ H Rr := fun pins s I => h.run pins s σ H Rr I q
theorem ita_l {K : PySem.W.Frag} {a : Addr} {vs : List V} {P : Hp} (h : SqL K P a vs) (hd : PAv K P vs xs) : ItA K (Itl K a) xs (fun _ => True) P := by
  refine ⟨fun i R P1 H hi _ e w => ?_, fun R P1 H _ e w => ?_, fun i R P1 H v H' _ e w hi y => ?_⟩
  · exact ⟨vs, vs[i]'(by rw [hd.length]; exact hi), w.sub.seq (e.seq h), by simp⟩
  · exact ⟨vs, w.sub.seq (e.seq h), by rw [hd.length]; exact Nat.le_refl _⟩
  · obtain ⟨rfl, y⟩ := y
    obtain ⟨v', h1, h2⟩ := pav_get (i := i) hd (List.getElem?_eq_getElem hi)
    rw [y vs (w.sub.seq (e.seq h))] at h1
    cases h1
    exact ⟨P1, _, List.getElem?_eq_getElem hi, av_mono e h2, w, Stp.refl⟩
theorem ita_t {K : PySem.W.Frag} {a : Addr} {vs : List V} {P : Hp} (h : SqT K P a vs) (hd : PAv K P vs xs) : ItA K (Itt K a) xs (fun _ => True) P := by
  refine ⟨fun i R P1 H hi _ e w => ?_, fun R P1 H _ e w => ?_, fun i R P1 H v H' _ e w hi y => ?_⟩
  · exact ⟨vs, vs[i]'(by rw [hd.length]; exact hi), sqT_mono w.sub (sqT_mono e h), by simp⟩
  · exact ⟨vs, sqT_mono w.sub (sqT_mono e h), by rw [hd.length]; exact Nat.le_refl _⟩
  · obtain ⟨rfl, y⟩ := y
    obtain ⟨v', h1, h2⟩ := pav_get (i := i) hd (List.getElem?_eq_getElem hi)
    rw [y vs (sqT_mono w.sub (sqT_mono e h))] at h1
    cases h1
    exact ⟨P1, _, List.getElem?_eq_getElem hi, av_mono e h2, w, Stp.refl⟩
/-- the list at p stays as it is -/
theorem ita_lst {K : PySem.W.Frag} {P : Hp} : ItA K (Itl K p) xs (fun R => (p, Res.lst xs) ∈ R) P := by
  refine ⟨fun i R P1 H hi m e w => ?_, fun R P1 H m e w => ?_, fun i R P1 H v H' m e w hi y => ?_⟩
  · obtain ⟨vs, h1, h2⟩ := w.has _ _ m
    exact ⟨vs, vs[i]'(by rw [h2.length]; exact hi), SqL.of h1, by simp⟩
  · obtain ⟨vs, h1, h2⟩ := w.has _ _ m
    exact ⟨vs, SqL.of h1, by rw [h2.length]; exact Nat.le_refl _⟩
  · obtain ⟨rfl, y⟩ := y
    obtain ⟨vs, h1, h2⟩ := w.has _ _ m
    obtain ⟨v', k1, k2⟩ := pav_get (i := i) h2 (List.getElem?_eq_getElem hi)
    rw [y vs (SqL.of h1)] at k1
    cases k1
    exact ⟨P1, _, List.getElem?_eq_getElem hi, k2, w, Stp.refl⟩
theorem ai_l (h : AE X ex e δ R fun x R1 => ∃ ds, x = .l ds ∧ postI (ds.map .d) (fun _ => True) R1) : AI X ex tg e δ R postI := fun σ P H hS hW hT Rr q => by
  refine wI_of (pi_list pe_w) ?_
  refine h σ P H hS hW hT _ fun v x R1 P1 H1 h1 h2 h3 h4 => ?_
  obtain ⟨ds, rfl, k⟩ := h1
  have h2 : Dp X.K P1 v (.list ds) := h2
  cases h2 with
  | @lst a0 vs0 ds0 hs hd => exact ⟨_, rfl, ⟨_, h3.sub.seq hs⟩, q _ _ _ R1 P1 H1 k (ita_l hs (dpAll_pav hd)) h3 h4⟩
theorem ai_t (h : AE X ex e δ R fun x R1 => ∃ ds, x = .t ds ∧ postI (ds.map .d) (fun _ => True) R1) : AI X ex tg e δ R postI := fun σ P H hS hW hT Rr q => by
  refine wI_of (pi_tup pe_w) ?_
  refine h σ P H hS hW hT _ fun v x R1 P1 H1 h1 h2 h3 h4 => ?_
  obtain ⟨ds, rfl, k⟩ := h1
  have h2 : Dp X.K P1 v (.tuple ds) := h2
  cases h2 with
  | @tup a0 vs0 ds0 hs hd => exact ⟨_, rfl, ⟨_, sqT_mono h3.sub hs⟩, q _ _ _ R1 P1 H1 k (ita_t hs (dpAll_pav hd)) h3 h4⟩
theorem ai_lst (h : AE X ex e δ R fun x R1 => ∃ p xs, x = .ptr p ∧ (p, Res.lst xs) ∈ R1 ∧ postI xs (fun R => (p, Res.lst xs) ∈ R) R1) : AI X ex tg e δ R postI := fun σ P H hS hW hT Rr q => by
  refine wI_of (pi_list pe_w) ?_
  refine h σ P H hS hW hT _ fun v x R1 P1 H1 h1 h2 h3 h4 => ?_
  obtain ⟨p, xs, rfl, m, k⟩ := h1
  cases (show v = .ref p from h2)
  obtain ⟨vs, e1, e2⟩ := h3.has _ _ m
  exact ⟨p, rfl, ⟨vs, SqL.of e1⟩, q _ _ _ R1 P1 H1 k ita_lst h3 h4⟩
def rangeA (lo : Int) (n : Nat) : List A := (List.range n).map fun (j : Nat) => A.i (lo + (j : Int))
theorem rangeA_len (lo : Int) (n : Nat) : (rangeA lo n).length = n := by unfold rangeA; rw [List.length_map, List.length_range]
theorem rangeA_get {lo : Int} {n j : Nat} {c : A} (h : (rangeA lo n)[j]? = some c) : j < n ∧ c = .i (lo + (j : Int)) := by
  unfold rangeA at h
  rw [List.getElem?_map] at h
  by_cases hj : j < n
  · rw [List.getElem?_range hj] at h
    cases h; exact ⟨hj, rfl⟩
  · rw [List.getElem?_eq_none (by rw [List.length_range]; omega)] at h; cases h
theorem ita_r {K : PySem.W.Frag} {P : Hp} {lo : Int} {n : Nat} : ItA K (Itr lo n) (rangeA lo n) (fun _ => True) P := by
  refine ⟨fun i R P1 H hi _ e w => ?_, fun R P1 H _ e w => ?_, fun i R P1 H v H' _ e w hi y => ?_⟩
  · rw [rangeA_len] at hi; exact hi
  · rw [rangeA_len]; exact Nat.le_refl _
  · obtain ⟨rfl, rfl⟩ := y
    rw [rangeA_len] at hi
    exact ⟨P1, .i (lo + (i : Int)), by unfold rangeA; rw [List.getElem?_map, List.getElem?_range hi]; rfl, .int _, w, Stp.refl⟩
theorem ai_range1 (hm : X.mg "range" = none) (h : AEs X ex [e] δ R fun as R1 => ∃ n : Int, as = [.i n] ∧ -(2 ^ 62) ≤ n ∧ n < 2 ^ 62 ∧ postI (rangeA 0 n.toNat) (fun _ => True) R1) (hg : Gl X "range" := by rfl)
    (hs : starEach [e] X.env = [(false, eval e X.env)] := by rfl) : AI X ex tg (.Call (.Name "range" p2) [e] [] pos) δ R postI := fun σ P H hS hW hT Rr q => by
  refine wI_of (pi_range1 hg hm pa_w hs) ?_
  refine h σ P H hS hW hT _ fun vs as R1 P1 H1 h1 h2 h3 h4 => ?_
  obtain ⟨n, rfl, b1, b2, k⟩ := h1
  obtain ⟨y, rfl, hy⟩ := pav1 h2
  cases hy
  exact ⟨n, rfl, b1, b2, q _ _ _ R1 P1 H1 k ita_r h3 h4⟩
theorem ai_range2 {e2 : Expr} (hm : X.mg "range" = none) (h : AEs X ex [e, e2] δ R fun as R1 => ∃ m n : Int, as = [.i m, .i n] ∧ (-(2 ^ 62) ≤ m ∧ m < 2 ^ 62 ∧ -(2 ^ 62) ≤ n ∧ n < 2 ^ 62) ∧ postI (rangeA m (n - m).toNat) (fun _ => True) R1) (hg : Gl X "range" := by rfl)
    (hs : starEach [e, e2] X.env = [(false, eval e X.env), (false, eval e2 X.env)] := by rfl) (hs2 : starEach [e2] X.env = [(false, eval e2 X.env)] := by rfl) : AI X ex tg (.Call (.Name "range" p2) [e, e2] [] pos) δ R postI := fun σ P H hS hW hT Rr q => by
  refine wI_of (pi_range2 hg hm pa_w hs hs2) ?_
  refine h σ P H hS hW hT _ fun vs as R1 P1 H1 h1 h2 h3 h4 => ?_
  obtain ⟨m, n, rfl, b, k⟩ := h1
  obtain ⟨y, z, rfl, hy, hz⟩ := pav2 h2
  cases hy; cases hz
  exact ⟨m, n, rfl, b, q _ _ _ R1 P1 H1 k ita_r h3 h4⟩

/-! ### loops -/
/-- up to forgetting -/
def Wk (q : SL → RL → Prop) : SL → RL → Prop := fun δ R => ∃ δ' R', Le R R' ∧ Fg δ δ' ∧ q δ' R'
theorem Wk.self {q : SL → RL → Prop} (h : q δ R) : Wk q δ R := ⟨δ, R, Le.refl _, Fg.refl _, h⟩
theorem liftS_wk {R0 : RL} {P0 H0 : Hp} {q : SL → RL → Prop} {σ : L2.St} {H : Hp} (h : liftS X R0 P0 H0 (Wk q) σ H) : liftS X R0 P0 H0 q σ H := by
  obtain ⟨δ, R, P, ⟨δ', R', l, f, k⟩, h2, h3, h4⟩ := h
  exact ⟨δ', R', P, k, h2.fg f, h3.le l, h4.le l⟩
theorem as_for (I : Nat → SL → RL → Prop) (hX : XD X L)
    (h : AI X ex tg iter δ R fun xs need R1 => Wk (I 0) δ R1 ∧ (∀ i δ R, I i δ R → need R) ∧
      (∀ (i : Nat) c δ R, xs[i]? = some c → I i δ R → AG X ex tg c δ R fun δ2 R2 => ASs X ex body δ2 R2 ⟨Wk (I (i + 1)), D.rt, Wk D.nx, Wk (I (i + 1))⟩) ∧ (∀ δ R, I xs.length δ R → D.nx δ R))
    (hs : ∀ x, foldedSetIterable iter X.env x = pure x := by intro _; rfl) : AS X ex (.For tg iter body [] pos) δ R D := fun σ P H hS hW hT => by
  refine wS_of (ps_for hX.pass hX.calm pi_w pg_w pss_w hs) ?_
  refine h σ P H hS hW hT _ fun J xs need R1 P1 H1 h1 h2 h3 h4 => ?_
  obtain ⟨k0, kn, ks, kd⟩ := h1
  refine ⟨fun i m σ' H' => m = xs.length - i ∧ i ≤ xs.length ∧ liftS X R1 P1 H1 (I i) σ' H', ⟨xs.length, by simp, Nat.zero_le _, liftS_wk ⟨δ, R1, P1, k0, hS.mono h4.ex, h3, Stp.refl⟩⟩, ?_⟩
  rintro i m σ' H' ⟨rfl, hi, δ', R', P', q1, q2, q3, q4⟩
  by_cases hlt : i < xs.length
  · refine .inr ⟨h2.go i R' P' H' hlt (kn _ _ _ q1) q4.ex q3, liftS X R1 P1 H1 (I (i + 1)), fun σ2 H2 n => ⟨xs.length - (i + 1), by omega, rfl, hlt, n⟩, fun v H2 y => ?_⟩
    obtain ⟨P2, c, e1, e2, e3, e4⟩ := h2.yld i R' P' H' v H2 (kn _ _ _ q1) q4.ex q3 hlt y
    have s2 := q4.trans e4
    have s0 := h4.trans s2
    have hg := ks i c δ' R' e1 q1 σ' P2 H2 v (q2.mono e4.ex) e3 (hT.step s0) e2
    refine fun pins s u I' r => thn (hg pins s u I' r) fun _ s' ⟨σ3, H3, I3, δ3, R3, P3, t1, t2, t3, t4⟩ => ⟨σ3, H3, I3, ?_⟩
    have s3 := s2.trans t4
    refine wSs_mono (t1 σ3 P3 H3 t2 t3 (hT.step (h4.trans s3))) ?_ ?_ ?_ ?_
    · exact fun _ _ z => liftS_wk (liftS_step s3 _ _ z)
    · exact fun _ _ z => liftV_step (h4.trans s3) _ _ z
    · exact fun _ _ z => liftS_wk (liftS_step (h4.trans s3) _ _ z)
    · exact fun _ _ z => liftS_wk (liftS_step s3 _ _ z)
  · have e : i = xs.length := by omega
    subst e
    exact .inl ⟨h2.stop R' P' H' (kn _ _ _ q1) q4.ex q3, δ', R', P', kd _ _ q1, q2, q3, h4.trans q4⟩
theorem as_while (I : Nat → SL → RL → Prop) (hX : XD X L) (h0 : ∃ m, Wk (I m) δ R)
    (h : ∀ m δ R, I m δ R → AT X ex c δ R fun k R1 => (k = true → ASs X ex body δ R1 ⟨Wk (fun δ R => ∃ m', m' < m ∧ I m' δ R), D.rt, Wk D.nx, Wk (fun δ R => ∃ m', m' < m ∧ I m' δ R)⟩) ∧ (k = false → D.nx δ R1)) :
    AS X ex (.While c body [] pos) δ R D := fun σ P H hS hW hT => by
  refine wS_of (ps_while hX.pass pt_w pss_w) ?_
  obtain ⟨m0, k0⟩ := h0
  refine ⟨fun m σ' H' => liftS X R P H (I m) σ' H', ⟨m0, liftS_wk ⟨δ, R, P, k0, hS, hW, Stp.refl⟩⟩, ?_⟩
  rintro m σ' H' ⟨δ', R', P', q1, q2, q3, q4⟩
  refine h m δ' R' q1 σ' P' H' q2 q3 (hT.step q4) _ fun k R1 P1 H1 h1 h2 h3 => ?_
  have s1 := q4.trans h3
  cases k with
  | false => rw [if_neg Bool.false_ne_true]; exact ⟨δ', R1, P1, h1.2 rfl, q2.mono h3.ex, h2, s1⟩
  | true =>
    rw [if_pos rfl]
    refine ⟨liftS X R P H (fun δ R => ∃ m', m' < m ∧ I m' δ R), fun σ2 H2 ⟨δ2, R2, P2, ⟨m', l, z⟩, z2, z3, z4⟩ => ⟨m', l, δ2, R2, P2, z, z2, z3, z4⟩, ?_⟩
    refine wSs_mono (h1.1 rfl σ' P1 H1 (q2.mono h3.ex) h2 (hT.step s1)) ?_ ?_ ?_ ?_
    · exact fun _ _ z => liftS_wk (liftS_step s1 _ _ z)
    · exact fun _ _ z => liftV_step s1 _ _ z
    · exact fun _ _ z => liftS_wk (liftS_step s1 _ _ z)
    · exact fun _ _ z => liftS_wk (liftS_step s1 _ _ z)

/-! ### comprehensions -/
/-- a name of the block -/
theorem ag_nameB {x : Str} {v : A} {q : SL → RL → Prop} (nd : X.N.Nodup) (hl : Loc X.env.scope x) (hf : X.fn x = true ∨ X.env.scope.names.lookup x = some .local) (hv : VisX X x) (u : Up δ x v δ') (k : q δ' R) : AG X ex (.Name x pos) v δ R q := fun σ P H w hS hW _ hw => by
  obtain ⟨i, h1, h2⟩ := hS.up u hv hw
  exact wG_of (pg_name nd h1 hl hf) ⟨δ', R, P, k, h2, hW, Stp.refl⟩
end
end AL

namespace AL
open PySem L2 PySem.Spec PyProof.Rows

/-! ### comprehensions -/
def BX (X : Cx) (scope : Scope) (X' : Cx) : Prop := ∃ (s : Shared) (H : Hp) (C : Addr) (cl : List (Str × Addr)) (fp : List Addr), X' = X.blk s H scope (compEnvC scope cl C X.env) fp
theorem wipe_get {σ : L2.St} : ∀ {vs : List Nat} {j : Nat}, (wipe σ vs)[j]? = if j ∈ vs then (σ[j]?).map (fun _ => none) else σ[j]?
  | [], j => by simp [wipe]
  | v :: vs, j => by
    unfold wipe
    by_cases e : v = j
    · subst e
      by_cases hl : v < (wipe σ vs).length
      · rw [List.getElem?_set_self hl, if_pos List.mem_cons_self]
        rw [wipe_length] at hl
        rw [List.getElem?_eq_getElem hl]; rfl
      · rw [List.getElem?_eq_none (by rw [List.length_set]; omega), if_pos List.mem_cons_self, List.getElem?_eq_none (by rw [wipe_length] at hl; omega)]; rfl
    · rw [List.getElem?_set_ne e, wipe_get (vs := vs)]
      by_cases h : j ∈ vs
      · rw [if_pos h, if_pos (List.mem_cons_of_mem _ h)]
      · rw [if_neg h, if_neg (fun z => (List.mem_cons.mp z).elim (fun q => e q.symm) h)]
theorem wipe_set {σ : L2.St} {vs : List Nat} {i : Nat} {y : Option V} (h : i ∈ vs) : wipe (σ.set i y) vs = wipe σ vs := by
  refine List.ext_getElem? fun j => ?_
  rw [wipe_get, wipe_get]
  by_cases e : i = j
  · subst e
    rw [if_pos h, if_pos h]
    by_cases hl : i < σ.length
    · rw [List.getElem?_set_self hl, List.getElem?_eq_getElem hl]; rfl
    · rw [List.getElem?_eq_none (by rw [List.length_set]; omega), List.getElem?_eq_none (by omega)]
  · rw [List.getElem?_set_ne e]
theorem wipe_wipe {σ : L2.St} {vs : List Nat} : wipe (wipe σ vs) vs = wipe σ vs := by
  refine List.ext_getElem? fun j => ?_
  rw [wipe_get, wipe_get]
  by_cases h : j ∈ vs
  · rw [if_pos h, if_pos h]; cases σ[j]? <;> rfl
  · rw [if_neg h, if_neg h]
/-- the slots that the block sees -/
inductive BS (X : Cx) (scope : Scope) (own : List (Str × Nat)) : SL → SL → Prop
  | nil : BS X scope own [] []
  | keep {x : Str} {a : A} {δ δ' : SL} : x ∉ own.map (·.1) → (∀ X', BX X scope X' → VisX X' x) → BS X scope own δ δ' → BS X scope own ((x, some a) :: δ) ((x, some a) :: δ')
  | drop {x : Str} {a : Option A} {δ δ' : SL} : BS X scope own δ δ' → BS X scope own ((x, a) :: δ) ((x, none) :: δ')
section
variable {L : List Str} {X X' : Cx} {ex : EX} {scope : Scope} {own : List (Str × Nat)} {δ δ' δb : SL} {R R' : RL} {D : AEnds} {e elt tg iter c : Expr} {ifs : List Expr} {pos p2 : Pos} {post : A → RL → Prop}
theorem BS.names (h : BS X scope own δ δ') : δ'.map (·.1) = δ.map (·.1) := by
  induction h with
  | nil => rfl
  | keep _ _ _ ih => simp only [List.map_cons, ih]
  | drop _ ih => simp only [List.map_cons, ih]
theorem BS.get (h : BS X scope own δ δ') : ∀ (i : Nat) x a, δ'[i]? = some (x, some a) → δ[i]? = some (x, some a) ∧ x ∉ own.map (·.1) ∧ ∀ X', BX X scope X' → VisX X' x := by
  induction h with
  | nil => intro i x a e; simp at e
  | keep h1 h2 _ ih => intro i x a e; cases i with
    | zero =>
      have e' := Option.some.inj e
      cases e'
      exact ⟨rfl, h1, h2⟩
    | succ i => exact ih i x a e
  | drop _ ih => intro i x a e; cases i with
    | zero => have e' := Option.some.inj e; cases e'
    | succ i => exact ih i x a e
theorem Sl.blk {P : Hp} {σ : L2.St} (hS : Sl X P σ δ) (hb : BS X scope own δ δb) (ok : BlkOk X.N X.env.scope scope own) (hx : BX X scope X') : Sl X' P (wipe σ (own.map (·.2))) δb := by
  obtain ⟨s, H, C, cl, fp, rfl⟩ := hx
  refine ⟨hb.names.trans hS.names, ?_, fun i x a e => ?_⟩
  · rw [wipe_length, hS.len]
    have := congrArg List.length hb.names
    simpa using this.symm
  · obtain ⟨e1, n1, v1⟩ := hb.get i x a e
    obtain ⟨_, v, e2, e3⟩ := hS.val i x a e1
    refine ⟨v1 _ ⟨s, H, C, cl, fp, rfl⟩, v, ?_, e3⟩
    rw [wipe_get, if_neg, e2]
    intro hm
    obtain ⟨p, hp, ep⟩ := List.mem_map.mp hm
    have q := ok.ix p hp
    rw [ep, ← hS.names, List.getElem?_map, e1] at q
    exact n1 (List.mem_map.mpr ⟨p, hp, (Option.some.inj q).symm⟩)
def AGB (X : Cx) (vs : List Nat) (tg : Expr) (a : A) (δ : SL) (R : RL) (q : SL → RL → Prop) : Prop :=
  ∀ (σ : L2.St) (P H : Hp) (v : V), Sl X P σ δ → Wd X.K R P H → Av X.K P v a → wG X tg v σ H (fun σ2 H2 => wipe σ2 vs = wipe σ vs ∧ liftS X R P H q σ2 H2)
def AGBs (X : Cx) (vs : List Nat) (tgs : List Expr) (as : List A) (δ : SL) (R : RL) (q : SL → RL → Prop) : Prop :=
  ∀ (σ : L2.St) (P H : Hp) (ws : List V), Sl X P σ δ → Wd X.K R P H → PAv X.K P ws as → wGs X tgs ws σ H (fun σ2 H2 => wipe σ2 vs = wipe σ vs ∧ liftS X R P H q σ2 H2)
theorem agb_name {x : Str} {a : A} {i : Nat} {vs : List Nat} {q : SL → RL → Prop} (nd : X'.N.Nodup) (hi : X'.N[i]? = some x) (hm : i ∈ vs) (hl : Loc X'.env.scope x) (hf : X'.fn x = true ∨ X'.env.scope.names.lookup x = some .local) (hv : VisX X' x) (u : Up δ x a δ') (k : q δ' R) : AGB X' vs (.Name x pos) a δ R q := fun σ P H w hS hW hw => by
  obtain ⟨j, h1, h2⟩ := hS.up u hv hw
  obtain rfl := nodup_ix nd hi h1
  exact wG_of (pg_name nd hi hl hf) ⟨wipe_set hm, δ', R, P, k, h2, hW, Stp.refl⟩
theorem agbs_nil {vs : List Nat} {q : SL → RL → Prop} (k : q δ R) : AGBs X' vs [] [] δ R q := fun σ P H ws hS hW hv => by
  cases hv
  exact wGs_of pgs_nil ⟨rfl, rfl, δ, R, P, k, hS, hW, Stp.refl⟩
theorem agbs_cons {tgs : List Expr} {v : A} {ws : List A} {vs : List Nat} {q : SL → RL → Prop} (h : AGB X' vs tg v δ R fun δ' R' => AGBs X' vs tgs ws δ' R' q)
    (hs : (assignEach (tg :: tgs) X'.env).map (·.2) = assign tg X'.env :: (assignEach tgs X'.env).map (·.2) := by rfl) : AGBs X' vs (tg :: tgs) (v :: ws) δ R q := fun σ P H us hS hW hv => by
  cases hv with
  | cons h1 h2 =>
    refine wGs_of (pgs_cons pg_w pgs_w hs) ⟨_, _, rfl, ?_⟩
    exact fun pins s u I r => thn (h σ P H _ hS hW h1 pins s u I r) fun _ _ ⟨σ', H', I', w1, δ', R', P', k1, k2, k3, k4⟩ =>
      ⟨σ', H', I', fun pins s us I r => thn (k1 σ' P' H' _ k2 k3 (pav_mono k4.ex h2) pins s us I r) fun _ _ ⟨σ2, H2, I2, w2, z⟩ => ⟨σ2, H2, I2, w2.trans w1, liftS_step k4 _ _ z⟩⟩
theorem agb_tup {tgs : List Expr} {j : Nat} {xs : List PyData} {vs : List Nat} {q : SL → RL → Prop} (hc : X'.calm = true) (h : AGBs X' vs tgs (xs.map .d) δ R q)
    (hn : (assignEach tgs X'.env).length = xs.length := by rfl) (hst : (assignEach tgs X'.env).findIdx? (·.1) = none := by rfl) : AGB X' vs (.Tuple tgs j pos) (.t xs) δ R q := fun σ P H v hS hW hv => by
  have hv : Dp X'.K P v (.tuple xs) := hv
  cases hv with
  | tup hs ha =>
    refine wG_of (pg_tup hc pgs_w hn hst) ⟨_, _, rfl, sqT_mono hW.sub hs, dpAll_len ha, ?_⟩
    exact h σ P H _ hS hW (dpAll_pav ha)
def AIf (X : Cx) (ifs : List Expr) (δ : SL) (R : RL) (post : Bool → RL → Prop) : Prop :=
  match ifs with
  | [] => post true R
  | [c] => AT X EX0 c δ R post
  | _ => False
theorem tx0 {P H : Hp} : TX X EX0 R P H := Takes.imp takes0 fun _ _ _ _ ⟨_, _, _, z, _⟩ => z
/-- the readings over all blocks -/
def gB (X : Cx) (scope : Scope) (tg : Expr) : TG := fun v σ H Q => ∀ X', BX X scope X' → wG X' tg v σ H Q
def tB' (X : Cx) (scope : Scope) (ifs : List Expr) : TT := fun σ H Q => match ifs with
  | [] => Q true H
  | [c] => ∀ X', BX X scope X' → wT X' c σ H Q
  | _ => False
def eB (X : Cx) (scope : Scope) (elt : Expr) : TE := fun σ H Q => ∀ X', BX X scope X' → wE X' elt σ H Q
theorem pts_b (hx : BX X scope X') : PTs X' ifs (tB' X scope ifs) := by
  match ifs with
  | [] => exact pts_nil
  | [c] => exact pts_one ⟨fun pins s σ H Q I h => h X' hx pins s I⟩
  | _ :: _ :: _ => exact ⟨fun _ _ _ _ _ _ h => h.elim⟩
/-- what a comprehension asks -/
def LcAsk (X : Cx) (ex : EX) (elt tg iter : Expr) (ifs : List Expr) (scope : Scope) (own : List (Str × Nat)) (δ δb : SL) (R : RL) (I : Nat → List A → RL → Prop) (post : A → RL → Prop) : Prop :=
  AI X ex tg iter δ R fun xs need R1 => (∃ R0, Le R1 R0 ∧ I 0 [] R0) ∧ (∀ D i acc R, I i acc R → need ((D, .lst acc) :: R)) ∧
    (∀ D (i : Nat) c acc R, xs[i]? = some c → I i acc R → ∃ δ2, (∀ X', BX X scope X' → AGB X' (own.map (·.2)) tg c δb ((D, .lst acc) :: R) fun δ' R' => δ' = δ2 ∧ R' = (D, .lst acc) :: R) ∧
      ∀ X', BX X scope X' → AIf X' ifs δ2 ((D, .lst acc) :: R) fun b R3 =>
        (b = true → ∀ X', BX X scope X' → AE X' EX0 elt δ2 R3 fun y R4 => ∃ R5 R6, Rem R4 D (.lst acc) R5 ∧ Le R5 R6 ∧ acc.length < sizeLine ∧ I (i + 1) (acc ++ [y]) R6) ∧
        (b = false → ∃ R5 R6, Rem R3 D (.lst acc) R5 ∧ Le R5 R6 ∧ I (i + 1) acc R6)) ∧
    (∀ D acc R, I xs.length acc R → post (.ptr D) ((D, .lst acc) :: R))
theorem bx_scope {X2 : Cx} (h : BX X scope X') (h2 : BX X scope X2) : X2.env.scope = X'.env.scope := by
  obtain ⟨_, _, _, _, _, rfl⟩ := h
  obtain ⟨_, _, _, _, _, rfl⟩ := h2
  rfl
theorem bx_N (h : BX X scope X') : X'.N = X.N ∧ X'.K = X.K := by
  obtain ⟨_, _, _, _, _, rfl⟩ := h
  exact ⟨rfl, rfl⟩
theorem Sl.bx {X2 : Cx} {P : Hp} {σ : L2.St} (hS : Sl X' P σ δ) (h : BX X scope X') (h2 : BX X scope X2) : Sl X2 P σ δ := by
  have eN : X2.N = X'.N := (bx_N h2).1.trans (bx_N h).1.symm
  have eK : X2.K = X'.K := (bx_N h2).2.trans (bx_N h).2.symm
  have eS := bx_scope h h2
  refine ⟨hS.names.trans eN.symm, hS.len, fun i x a e => ?_⟩
  obtain ⟨⟨v1, v2, v3⟩, v, e1, e2⟩ := hS.val i x a e
  exact ⟨⟨by rw [eS]; exact v1, v2, v3⟩, v, e1, eK ▸ e2⟩
theorem rem_le {R R5 R6 : RL} {a : Addr} {r : Res} (h : Rem R a r R5) (l : Le R5 R6) : Le R ((a, r) :: R6) := Le.cons h l
theorem lc_read {I : Nat → List A → RL → Prop} (hX : XD X L) (ok : BlkOk X.N X.env.scope scope own) (hb : BS X scope own δ δb) (h : LcAsk X ex elt tg iter ifs scope own δ δb R I post)
    (σ : L2.St) (P H : Hp) (hS : Sl X P σ δ) (hW : Wd X.K R P H) (hT : TX X ex R P H) (Q : VK) (q : ∀ v x R' P' H', post x R' → Av X.K P' v x → Wd X.K R' P' H' → Stp R R' P H P' H' → Q v H') :
    tLc (wI X tg iter) (gB X scope tg) (tB' X scope ifs) (eB X scope elt) (own.map (·.2)) σ H Q := by
  refine h σ P H hS hW hT _ fun J xs need R1 P1 H1 h1 h2 h3 h4 => ?_
  obtain ⟨⟨R0, l0, i0⟩, kn, ks, kd⟩ := h1
  intro D hD
  refine ⟨fun i m H' => m = xs.length - i ∧ i ≤ xs.length ∧ ∃ acc R' P', I i acc R' ∧ Wd X.K ((D, .lst acc) :: R') P' H' ∧ Stp R1 ((D, .lst acc) :: R') P1 H1 P' H', ⟨xs.length, by simp, Nat.zero_le _, [], R0, P1, i0, ?_, ?_⟩, ?_⟩
  · exact (h3.le l0).new hD ⟨_, upd_same, .nil⟩
  · exact (stp_new (R := R0) (r' := .lst []) hD).wide l0
  rintro i m H' ⟨rfl, hi, acc, R', P', q1, q3, q4⟩
  by_cases hlt : i < xs.length
  · refine .inr ⟨h2.go i _ P' H' hlt (kn _ _ _ _ q1) q4.ex q3, fun H2 => i + 1 ≤ xs.length ∧ ∃ acc R' P', I (i + 1) acc R' ∧ Wd X.K ((D, .lst acc) :: R') P' H2 ∧ Stp R1 ((D, .lst acc) :: R') P1 H1 P' H2, fun H2 n => ⟨xs.length - (i + 1), by omega, rfl, n.1, n.2⟩, fun v H2 y => ?_⟩
    obtain ⟨P2, c, e1, e2, e3, e4⟩ := h2.yld i _ P' H' v H2 (kn _ _ _ _ q1) q4.ex q3 hlt y
    have s2 := q4.trans e4
    have s0 := h4.trans s2
    obtain ⟨δ2, kg, ki⟩ := ks D i c acc R' e1 q1
    intro X' hx
    have hK : X'.K = X.K := (bx_N hx).2
    have hSb : Sl X' P2 (wipe σ (own.map (·.2))) δb := (hS.mono s0.ex).blk hb ok hx
    refine fun pins s u I' r => thn (kg X' hx _ P2 H2 v hSb (hK ▸ e3) (hK ▸ e2) pins s u I' r) fun _ s' ⟨σ3, H3, I3, w3, δ3, R3, P3, ⟨eδ, eR⟩, t2, t3, t4⟩ => ⟨σ3, H3, I3, w3.trans wipe_wipe, ?_⟩
    subst eδ eR
    have s3 := s2.trans t4
    have t3 : Wd X.K ((D, .lst acc) :: R') P3 H3 := hK ▸ t3
    -- the end of a turn
    have fin1 : ∀ {R4 : RL} {P4 H4 : Hp} {z : V} {y : A}, (∃ R5 R6, Rem R4 D (.lst acc) R5 ∧ Le R5 R6 ∧ acc.length < sizeLine ∧ I (i + 1) (acc ++ [y]) R6) → Av X.K P4 z y → Wd X.K R4 P4 H4 → Stp R1 R4 P1 H1 P4 H4 →
        ∃ acc0, H4 D = some (.lst acc0) ∧ acc0.length < sizeLine ∧ (i + 1 ≤ xs.length ∧ ∃ acc R' P', I (i + 1) acc R' ∧ Wd X.K ((D, .lst acc) :: R') P' (upd H4 D (.lst (acc0 ++ [z]))) ∧ Stp R1 ((D, .lst acc) :: R') P1 H1 P' (upd H4 D (.lst (acc0 ++ [z])))) := by
      rintro R4 P4 H4 z y ⟨R5, R6, hr, l, hz, k⟩ hy w4 s4
      have w5 := w4.le (rem_le hr l)
      obtain ⟨vs, g1, g2⟩ := w5.get Sel.here
      exact ⟨vs, g1, by rw [g2.length]; exact hz, hlt, acc ++ [y], R6, P4, k, w5.put Sel.here ⟨_, upd_same, pav_append g2 (.cons hy .nil)⟩, (s4.le (rem_le hr l)).trans (stp_put w5 Sel.here)⟩
    have elt1 : ∀ {R4 : RL} {P4 H4 : Hp}, (∀ X', BX X scope X' → AE X' EX0 elt δ3 R4 fun y R4 => ∃ R5 R6, Rem R4 D (.lst acc) R5 ∧ Le R5 R6 ∧ acc.length < sizeLine ∧ I (i + 1) (acc ++ [y]) R6) → Wd X.K R4 P4 H4 → Stp R1 R4 P1 H1 P4 H4 → Same P3 P4 →
        eB X scope elt σ3 H4 fun y H5 => ∃ acc0, H5 D = some (.lst acc0) ∧ acc0.length < sizeLine ∧ (i + 1 ≤ xs.length ∧ ∃ acc R' P', I (i + 1) acc R' ∧ Wd X.K ((D, .lst acc) :: R') P' (upd H5 D (.lst (acc0 ++ [y]))) ∧ Stp R1 ((D, .lst acc) :: R') P1 H1 P' (upd H5 D (.lst (acc0 ++ [y])))) := by
      intro R4 P4 H4 ke w4 s4 sm X2 hx2
      have hK2 : X2.K = X.K := (bx_N hx2).2
      refine ke X2 hx2 σ3 P4 H4 ((t2.mono sm).bx hx hx2) (hK2 ▸ w4) tx0 _ fun z y R5 P5 H5 m1 m2 m3 m4 => ?_
      exact fin1 m1 (hK2 ▸ m2) (hK2 ▸ m3) (s4.trans m4)
    match ifs, ki with
    | [], ki =>
      exact elt1 ((ki X' hx).1 rfl) t3 s3 (Same.refl _)
    | [c0], ki =>
      intro X2 hx2
      have hK2 : X2.K = X.K := (bx_N hx2).2
      refine (show AT X2 EX0 c0 δ3 _ _ from ki X2 hx2) σ3 P3 H3 (t2.bx hx hx2) (hK2 ▸ t3) tx0 _ fun b R4 P4 H4 m1 m2 m3 => ?_
      have w4 : Wd X.K R4 P4 H4 := hK2 ▸ m2
      cases b with
      | true => rw [if_pos rfl]; exact elt1 (m1.1 rfl) w4 (s3.trans m3) m3.ex
      | false =>
        rw [if_neg Bool.false_ne_true]
        obtain ⟨R5, R6, hr, l, k⟩ := m1.2 rfl
        exact ⟨hlt, acc, R6, P4, k, w4.le (rem_le hr l), (s3.trans m3).le (rem_le hr l)⟩
    | _ :: _ :: _, ki => exact (ki X' hx).elim
  · have e : i = xs.length := by omega
    subst e
    exact .inl ⟨h2.stop _ P' H' (kn _ _ _ _ q1) q4.ex q3, q _ _ _ P' H' (kd D _ _ q1) rfl q3 (h4.trans q4)⟩
theorem ae_lc (own : List (Str × Nat)) (δb : SL) (I : Nat → List A → RL → Prop) (hX : XD X L) (ok : BlkOk X.N X.env.scope scope own) (hb : BS X scope own δ δb) (h : LcAsk X ex elt tg iter ifs scope own δ δb R I post)
    (hs : ∀ x, foldedSetIterable iter X.env x = pure x := by intro _; rfl) : AE X ex (.ListComp elt [⟨tg, iter, ifs, 0⟩] scope pos) δ R post := fun σ P H hS hW hT Q q =>
  wE_of (pe_lc hX.calm hX.nd pi_w ok (fun s H C cl fp => ⟨fun pins st σ H v u Q I r h => h _ ⟨s, _, C, cl, fp, rfl⟩ pins st u I r⟩) (fun s H C cl fp => pts_b ⟨s, H, C, cl, fp, rfl⟩) (fun s H C cl fp => ⟨fun pins st σ H Q I h => h _ ⟨s, _, C, cl, fp, rfl⟩ pins st I⟩) hs)
    (lc_read hX ok hb h σ P H hS hW hT Q q)
theorem as_setLc (own : List (Str × Nat)) (δb : SL) (I : Nat → List A → RL → Prop) {y : Str} {py spos : Pos} {i : Nat} (hX : XD X L) (hm : y ∈ L) (hi : X.N[i]? = some y) (hyl : X.env.scope.names.lookup y = some .local)
    (hsw : swapsWith (.ListComp elt [⟨tg, iter, ifs, 0⟩] scope pos) (some (.Name y py)) spos.line X.env = pure true) (ok : BlkOk X.N X.env.scope scope own) (hb : BS X scope own δ δb)
    (h : LcAsk X ex elt tg iter ifs scope own δ δb R I fun x R1 => ∃ δ', Up δ y x δ' ∧ D.nx δ' R1)
    (hs : ∀ x, foldedSetIterable iter X.env x = pure x := by intro _; rfl) : AS X ex (.Assign [.Name y py] (.ListComp elt [⟨tg, iter, ifs, 0⟩] scope pos) spos) δ R D := fun σ P H hS hW hT => by
  obtain ⟨l1, l2, l3, l4⟩ := hX.loc y hm
  refine wS_of (ps_setLc (i := i) (g := gB X scope tg) (tt := tB' X scope ifs) (te := eB X scope elt) hX.calm hX.nd hi hyl hsw pi_w ok (fun s H C cl fp => ⟨fun pins st σ H v u Q I r h => h _ ⟨s, _, C, cl, fp, rfl⟩ pins st u I r⟩) (fun s H C cl fp => pts_b ⟨s, H, C, cl, fp, rfl⟩) (fun s H C cl fp => ⟨fun pins st σ H Q I h => h _ ⟨s, _, C, cl, fp, rfl⟩ pins st I⟩) hs) ?_
  refine lc_read hX ok hb h σ P H hS hW hT _ fun v x R1 P1 H1 h1 h2 h3 h4 => ?_
  obtain ⟨δ', u, k⟩ := h1
  obtain ⟨j, e1, e2⟩ := (hS.mono h4.ex).up u ⟨l1.elim .inl fun z => .inr (.inl z), l3, l4⟩ h2
  obtain rfl := nodup_ix hX.nd hi e1
  exact ⟨δ', R1, P1, k, e2, h3, h4⟩
end

/-! ### a def -/
def startA : List Str → List A → SL
  | [], _ => []
  | x :: N, [] => (x, none) :: startA N []
  | x :: N, a :: as => (x, some a) :: startA N as
theorem startA_names : ∀ (N : List Str) (as : List A), (startA N as).map (·.1) = N
  | [], _ => rfl
  | x :: N, [] => by simp only [startA, List.map_cons, startA_names N []]
  | x :: N, a :: as => by simp only [startA, List.map_cons, startA_names N as]
theorem startA_get : ∀ {N : List Str} {as : List A} {i : Nat} {x : Str} {a : A}, (startA N as)[i]? = some (x, some a) → as[i]? = some a ∧ N[i]? = some x
  | [], as, i, x, a, h => by simp [startA] at h
  | y :: N, [], i, x, a, h => by
    cases i with
    | zero => simp [startA] at h
    | succ i =>
      have q := startA_get (N := N) (as := []) (i := i) (x := x) (a := a) (by simpa [startA] using h)
      simp at q
  | y :: N, b :: as, 0, x, a, h => by
    simp [startA] at h
    obtain ⟨h1, h2⟩ := h
    exact ⟨by simp [h2], by simp [h1]⟩
  | y :: N, b :: as, i + 1, x, a, h => by
    obtain ⟨h1, h2⟩ := startA_get (N := N) (as := as) (i := i) (x := x) (a := a) (by simpa [startA] using h)
    exact ⟨by simpa using h1, by simpa using h2⟩
/-- all names of a def, as may be decided -/
def locB (sc : Scope) (x : Str) : Bool := (sc.names.lookup x == some .local || sc.names.lookup x == some .cell) && !(x == ("__debug__" : Str)) && !(x == ("__classdict__" : Str))
structure Loc2 (sc : Scope) (x : Str) : Prop where
  loc : sc.names.lookup x = some .local ∨ sc.names.lookup x = some .cell
  db : (x == ("__debug__" : Str)) = false
  cd : (x == ("__classdict__" : Str)) = false
section
variable {P : Program} {w : World} {K : PySem.W.Frag} {mg : Str → Option Value} {base : Heap}
theorem okA {x qual : Str} {st : Stmt} {f : Addr} {fd : FuncData} {N L ps : List Str} {k : Nat} {sp : ASp} (F : Fun K x qual st f fd) (S : FnScope N ps (defScope st)) (hL : (∀ x ∈ L, Loc2 (defScope st) x) ∧ ∀ x ∈ ps, x ∈ L) (len : ∀ xs R q e, sp xs R q e → xs.length = ps.length)
    (hbody : ∀ X : Cx, XD X L → XU X → Room k X.A → (∃ (cdv : Value) (A : Around) (outer : List Env) (s : Shared) (H : Hp) (E : XK), X = cxOf (L2.CX P w) P w K mg base N qual (defScope st) f cdv A outer s H E) → ∀ xs R post exc, sp xs R post exc →
      ASs X (fun cls d _ R' => exc cls d R') (defBody st) (startA N xs) R ⟨fun _ R' => ∃ R2, Le R' R2 ∧ post .n R2, post, fun _ _ => False, fun _ _ => False⟩) : FnOk P w K mg base (L2.CX P w) (k + 1) f fd ps (spOf K sp) := by
  refine F.okX S (fun vs H Q E h => ?_) (fun cdv A outer s H vs Q E hr h => ?_)
  · obtain ⟨xs, R, P0, h1, h2, h3⟩ := h
    rw [h1.length]; exact len _ _ _ _ h3
  · obtain ⟨xs, R, P0, h1, h2, h3⟩ := h
    refine ⟨_, pss_w, ?_⟩
    generalize hX : cxOf (L2.CX P w) P w K mg base N qual (defScope st) f cdv A outer s H E = X
    have XDX : XD X L := by
      subst hX
      exact ⟨S.nd, fun x hx => ⟨(hL.1 x hx).loc, .inl rfl, (hL.1 x hx).db, (hL.1 x hx).cd⟩, rfl, passes_of rfl⟩
    have hrX : Room k X.A := by subst hX; exact hr
    have eK : X.K = K := by subst hX; rfl
    have eN : X.N = N := by subst hX; rfl
    have eS : X.env.scope = defScope st := by subst hX; rfl
    have tk : TX X (fun cls d _ R' => ∀ P' H', Wd K R' P' H' → Stp R R' P0 H P' H' → E cls d H') R P0 H := by
      have t0 : Takes X (fun cls d _ H => E cls d H) := by subst hX; exact takes_of rfl rfl rfl rfl
      exact t0.imp fun cls d σ H' ⟨δ, R', P', z, _, w', s'⟩ => z P' H' (eK ▸ w') s'
    have hpl : ps.length ≤ N.length := by have := congrArg List.length S.pre; rw [List.length_take] at this; omega
    have hxl := len _ _ _ _ h3
    refine wSs_mono (hbody X XDX (Room.units hrX) hrX ⟨cdv, A, outer, s, H, E, hX.symm⟩ xs R _ _ h3 (L2.start N vs) P0 H ⟨?_, ?_, ?_⟩ (eK ▸ h2) tk) ?_ ?_ (fun _ _ z => ?_) (fun _ _ z => ?_)
    · rw [startA_names, eN]
    · unfold L2.start
      have e1 := congrArg List.length (startA_names N xs)
      rw [List.length_map] at e1
      rw [List.length_append, List.length_map, List.length_replicate, h1.length, e1]; omega
    · intro i y a e
      obtain ⟨e1, e2⟩ := startA_get e
      have hi' : i < ps.length := by rw [← hxl]; exact (List.getElem?_eq_some_iff.mp e1).1
      have e5 : ps[i]? = some y := by rw [← S.pre, List.getElem?_take_of_lt hi']; exact e2
      have l := hL.1 y (hL.2 y (List.mem_of_getElem? e5))
      obtain ⟨v, e3, e4⟩ := pav_get h1 e1
      refine ⟨⟨?_, l.db, l.cd⟩, v, ?_, eK ▸ e4⟩
      · show Vis X.env.scope y
        rw [eS]; exact l.loc.elim .inl fun z => .inr (.inl z)
      · unfold L2.start
        have hi : i < vs.length := (List.getElem?_eq_some_iff.mp e3).1
        rw [List.getElem?_append_left (by simpa using hi), List.getElem?_map, e3]; rfl
    · rintro σ H' ⟨δ, R', P', ⟨R2, l, z⟩, _, w', s'⟩
      exact z _ P' H' .non ((eK ▸ w').le l) (s'.le l)
    · rintro v H' ⟨y, R', P', z, hv, w', s'⟩
      exact z v P' H' (eK ▸ hv) (eK ▸ w') s'
    · obtain ⟨_, _, _, z, _⟩ := z; exact z.elim
    · obtain ⟨_, _, _, z, _⟩ := z; exact z.elim
end
end AL

namespace AL
open PySem L2 PySem.Spec PyProof.Rows

theorem loc2_of {sc : Scope} {x : Str} (h : locB sc x = true) : Loc2 sc x := by
  unfold locB at h
  simp only [Bool.and_eq_true, Bool.or_eq_true, Bool.not_eq_true'] at h
  refine ⟨?_, h.1.2, h.2⟩
  exact h.1.1.imp (fun z => eq_of_beq z) fun z => eq_of_beq z
theorem loc2_all {sc : Scope} {L ps : List Str} (h : (L.all (locB sc) && ps.all fun x => decide (x ∈ L)) = true) : (∀ x ∈ L, Loc2 sc x) ∧ ∀ x ∈ ps, x ∈ L := by
  rw [Bool.and_eq_true, List.all_eq_true, List.all_eq_true] at h
  exact ⟨fun x hx => loc2_of (h.1 x hx), fun x hx => of_decide_eq_true (h.2 x hx)⟩
/-- a def of the module, a method, as they stand behind the top -/
structure Df (K : PySem.W.Frag) (mg : Str → Option Value) (x : Str) (st : Stmt) (ps : List Str) : Prop where
  ex : ∃ f fd, mg x = some (.ref f) ∧ PySem.W.keepIn K (.ref f) = true ∧ Binds K fd ps [] ∧ Fun K x x st f fd
structure Dm (K : PySem.W.Frag) (C : Addr) (m qual : Str) (st : Stmt) (ps : List Str) : Prop where
  cls : Cls K C
  ex : ∃ f fd, Meth K C m f ∧ Binds K fd ps [] ∧ Fun K m qual st f fd
structure Di (K : PySem.W.Frag) (mg : Str → Option Value) (x : Str) (C : Addr) (qual : Str) (st : Stmt) (ps : List Str) : Prop where
  ex : ∃ f fd, Mk K C f ∧ mg x = some (.ref C) ∧ Binds K fd ps [] ∧ Fun K "__init__" qual st f fd
section
variable {P : Program} {w : World} {K : PySem.W.Frag} {mg : Str → Option Value} {base : Heap} {x m qual : Str} {st : Stmt} {ps : List Str} {k : Nat} {sp : ASp} {C : Addr}
theorem Df.cal (d : Df K mg x st ps) (mon : Mon sp) (h : ∀ f fd, Fun K x x st f fd → FnOk P w K mg base (L2.CX P w) k f fd ps (spOf K sp)) : Cal P w K mg base k x ps sp := by
  obtain ⟨f, fd, h1, h2, h3, h4⟩ := d.ex
  exact ⟨mon, f, fd, h1, h2, h3, h f fd h4⟩
theorem Dm.cal (d : Dm K C m qual st ps) (mon : Mon sp) (h : ∀ f fd, Fun K m qual st f fd → FnOk P w K mg base (L2.CX P w) k f fd ps (spOf K sp)) : Mcal P w K mg base k C m ps sp := by
  obtain ⟨f, fd, h1, h3, h4⟩ := d.ex
  exact ⟨mon, d.cls, f, fd, h1, h3, h f fd h4⟩
theorem Di.cal (d : Di K mg x C qual st ps) (mon : Mon sp) (h : ∀ f fd, Fun K "__init__" qual st f fd → FnOk P w K mg base (L2.CX P w) k f fd ps (spOf K sp)) : Kcal P w K mg base k x C ps sp := by
  obtain ⟨f, fd, h1, h2, h3, h4⟩ := d.ex
  exact ⟨mon, f, fd, h1, h2, h3, h f fd h4⟩
end

section
variable {L : List Str} {X : Cx} {ex : EX} {δ δ' : SL} {R R' : RL} {D : AEnds} {e o : Expr} {es : List Expr} {pos p2 : Pos} {post : A → RL → Prop} {U : Res → RL} {p : Addr} {xs : List A} {ds : List PyData} {m n : Int} {c : A}
theorem ae_len (hm : X.mg "len" = none) (h : AEs X ex (e :: es) δ R fun xs R1 => CA X (.builtin "len") xs R1 post) (hg : Gl X "len" := by rfl) (he : starEach (e :: es) X.env = (false, eval e X.env) :: starEach es X.env := by rfl) (hpl : (backTo pos (starEach es X.env)).any (·.1) = false := by rfl) :
    AE X ex (.Call (.Name "len" p2) (e :: es) [] pos) δ R post := ae_callB hm PySem.boot_len h hg (by decide) (by decide) he hpl
theorem ae_absB (hm : X.mg "abs" = none) (h : AEs X ex (e :: es) δ R fun xs R1 => CA X (.builtin "abs") xs R1 post) (hg : Gl X "abs" := by rfl) (he : starEach (e :: es) X.env = (false, eval e X.env) :: starEach es X.env := by rfl) (hpl : (backTo pos (starEach es X.env)).any (·.1) = false := by rfl) :
    AE X ex (.Call (.Name "abs" p2) (e :: es) [] pos) δ R post := ae_callB hm (by decide +kernel) h hg (by decide) (by decide) he hpl
theorem ae_sumB (hm : X.mg "sum" = none) (h : AEs X ex (e :: es) δ R fun xs R1 => CA X (.builtin "sum") xs R1 post) (hg : Gl X "sum" := by rfl) (he : starEach (e :: es) X.env = (false, eval e X.env) :: starEach es X.env := by rfl) (hpl : (backTo pos (starEach es X.env)).any (·.1) = false := by rfl) :
    AE X ex (.Call (.Name "sum" p2) (e :: es) [] pos) δ R post := ae_callB hm (by decide +kernel) h hg (by decide) (by decide) he hpl
theorem ae_minB (hm : X.mg "min" = none) (h : AEs X ex (e :: es) δ R fun xs R1 => CA X (.builtin "min") xs R1 post) (hg : Gl X "min" := by rfl) (he : starEach (e :: es) X.env = (false, eval e X.env) :: starEach es X.env := by rfl) (hpl : (backTo pos (starEach es X.env)).any (·.1) = false := by rfl) :
    AE X ex (.Call (.Name "min" p2) (e :: es) [] pos) δ R post := ae_callB hm (by decide +kernel) h hg (by decide) (by decide) he hpl
theorem ae_maxB (hm : X.mg "max" = none) (h : AEs X ex (e :: es) δ R fun xs R1 => CA X (.builtin "max") xs R1 post) (hg : Gl X "max" := by rfl) (he : starEach (e :: es) X.env = (false, eval e X.env) :: starEach es X.env := by rfl) (hpl : (backTo pos (starEach es X.env)).any (·.1) = false := by rfl) :
    AE X ex (.Call (.Name "max" p2) (e :: es) [] pos) δ R post := ae_callB hm (by decide +kernel) h hg (by decide) (by decide) he hpl
theorem ae_sortedB (hm : X.mg "sorted" = none) (h : AEs X ex (e :: es) δ R fun xs R1 => CA X (.builtin "sorted") xs R1 post) (hg : Gl X "sorted" := by rfl) (he : starEach (e :: es) X.env = (false, eval e X.env) :: starEach es X.env := by rfl) (hpl : (backTo pos (starEach es X.env)).any (·.1) = false := by rfl) :
    AE X ex (.Call (.Name "sorted" p2) (e :: es) [] pos) δ R post := ae_callB hm (by decide +kernel) h hg (by decide) (by decide) he hpl
theorem ae_isinst (hm : X.mg "isinstance" = none) (h : AEs X ex (e :: es) δ R fun xs R1 => CA X (.builtin "isinstance") xs R1 post) (hg : Gl X "isinstance" := by rfl) (he : starEach (e :: es) X.env = (false, eval e X.env) :: starEach es X.env := by rfl) (hpl : (backTo pos (starEach es X.env)).any (·.1) = false := by rfl) :
    AE X ex (.Call (.Name "isinstance" p2) (e :: es) [] pos) δ R post := ae_callB hm (by decide +kernel) h hg (by decide) (by decide) he hpl
theorem ae_intT (hm : X.mg "int" = none) (h : AEs X ex (e :: es) δ R fun xs R1 => CA X (.type "int") xs R1 post) (hg : Gl X "int" := by rfl) (he : starEach (e :: es) X.env = (false, eval e X.env) :: starEach es X.env := by rfl) (hpl : (backTo pos (starEach es X.env)).any (·.1) = false := by rfl) :
    AE X ex (.Call (.Name "int" p2) (e :: es) [] pos) δ R post := ae_callTy hm (by decide +kernel) h hg (by decide) (by decide) he hpl
theorem ae_tupleT (hm : X.mg "tuple" = none) (h : AEs X ex (e :: es) δ R fun xs R1 => CA X (.type "tuple") xs R1 post) (hg : Gl X "tuple" := by rfl) (he : starEach (e :: es) X.env = (false, eval e X.env) :: starEach es X.env := by rfl) (hpl : (backTo pos (starEach es X.env)).any (·.1) = false := by rfl) :
    AE X ex (.Call (.Name "tuple" p2) (e :: es) [] pos) δ R post := ae_callTy hm (by decide +kernel) h hg (by decide) (by decide) he hpl
theorem ae_listT (hm : X.mg "list" = none) (h : AEs X ex (e :: es) δ R fun xs R1 => CA X (.type "list") xs R1 post) (hg : Gl X "list" := by rfl) (he : starEach (e :: es) X.env = (false, eval e X.env) :: starEach es X.env := by rfl) (hpl : (backTo pos (starEach es X.env)).any (·.1) = false := by rfl) :
    AE X ex (.Call (.Name "list" p2) (e :: es) [] pos) δ R post := ae_callTy hm (by decide +kernel) h hg (by decide) (by decide) he hpl
theorem ae_strT (hm : X.mg "str" = none) (h : AEs X ex (e :: es) δ R fun xs R1 => CA X (.type "str") xs R1 post) (hg : Gl X "str" := by rfl) (he : starEach (e :: es) X.env = (false, eval e X.env) :: starEach es X.env := by rfl) (hpl : (backTo pos (starEach es X.env)).any (·.1) = false := by rfl) :
    AE X ex (.Call (.Name "str" p2) (e :: es) [] pos) δ R post := ae_callTy hm (by decide +kernel) h hg (by decide) (by decide) he hpl
/-- n.bit_length() -/
theorem ae_bits {apos : Pos} (h : AE X ex o δ R fun x R1 => ∃ n : Int, x = .i n ∧ post (.i (Builtin.Int.intBits n : Nat)) R1) (hbase : attributeBase o "bit_length" X.env (eval o X.env) = eval o X.env := by rfl) (hline : (apos.endLine == pos.line) = true := by rfl) :
    AE X ex (.Call (.Attribute o "bit_length" apos) [] [] pos) δ R post := fun σ P H hS hW hT Q q => by
  refine wE_of (pe_bits pe_w hbase hline) ?_
  refine h σ P H hS hW hT _ fun v x R1 P1 H1 h1 h2 h3 h4 => ?_
  obtain ⟨n, rfl, k⟩ := h1
  cases h2
  exact ⟨n, rfl, q _ _ R1 P1 H1 k aInt h3 h4⟩
/-- a constant of the module -/
theorem ae_glob {x : Str} {v : V} {u : Value} {a : A} (hm : X.mg x = some u) (r : RelV v u) (ha : ∀ P, Av X.K P v a) (k : post a R) (hg : Gl X x := by rfl) (hd : (x == ("__debug__" : Str)) = false := by decide) : AE X ex (.Name x pos) δ R post := fun σ P H hS hW hT Q q =>
  wE_of (pe_glob hg hm r hd) (q _ _ R P H k (ha P) hW Stp.refl)
/-- a constant by its data -/
structure Cst (K : PySem.W.Frag) (mg : Str → Option Value) (x : Str) (d : PyData) : Prop where
  ex : ∃ (v : V) (u : Value), mg x = some u ∧ RelV v u ∧ ∀ P, Dp K P v d
theorem ae_cst {x : Str} {d : PyData} (c : Cst X.K X.mg x d) (k : post (.d d) R) (hg : Gl X x := by rfl) (hd : (x == ("__debug__" : Str)) = false := by decide) : AE X ex (.Name x pos) δ R post := by
  obtain ⟨v, u, h1, h2, h3⟩ := c.ex
  exact ae_glob (a := .d d) h1 h2 h3 k hg hd
/-- an assumption: what follows may be weakened -/
theorem as_perm {sts : List Stmt} (l : Le R R') (h : ASs X ex sts δ R' D) : ASs X ex sts δ R D := as_drop l h
end
/-- which names are still the built-ins -/
structure Blt (mg : Str → Option Value) : Prop where
  len : mg "len" = none
  range : mg "range" = none
  int : mg "int" = none
  abs : mg "abs" = none
  sum : mg "sum" = none
  isinstance : mg "isinstance" = none
  bool : mg "bool" = none
  str : mg "str" = none
  list : mg "list" = none
  tuple : mg "tuple" = none
end AL
namespace AL
open PySem L2 PySem.Spec PyProof.Rows
/-- a def that touches no resource -/
def pur (g : List A → (A → Prop) → Prop) : ASp := fun xs R post _ => R = [] ∧ g xs fun x => post x []
theorem mon_pur {g : List A → (A → Prop) → Prop} (h : ∀ xs q q', (∀ x, q x → q' x) → g xs q → g xs q') : Mon (pur g) := fun xs R p p' e e' k _ ⟨h1, h2⟩ => ⟨h1, h _ _ _ (fun x => k x []) h2⟩
section
variable {L : List Str} {X : Cx} {ex : EX} {δ δ' : SL} {R R' : RL} {D : AEnds} {e o : Expr} {es : List Expr} {pos p2 : Pos} {post : A → RL → Prop} {k n : Nat} {x : Str} {ps : List Str} {g : List A → (A → Prop) → Prop}
theorem ae_callP (c : Cal X.prog X.w X.K X.mg X.base k x ps (pur g)) (hr : Room n X.A) (hk : k ≤ n) (h : AEs X ex (e :: es) δ R fun xs R1 => g xs fun x => post x R1)
    (hg : Gl X x := by rfl) (hdb : (x == ("__debug__" : Str)) = false := by decide) (he : starEach (e :: es) X.env = (false, eval e X.env) :: starEach es X.env := by rfl) (hpl : (backTo pos (starEach es X.env)).any (·.1) = false := by rfl) :
    AE X ex (.Call (.Name x p2) (e :: es) [] pos) δ R post := by
  refine ae_call c hr hk ?_ hg hdb he hpl
  intro σ P H hS hW hT Q q
  exact h σ P H hS hW hT Q fun vs xs R1 P1 H1 h1 h2 h3 h4 => q vs xs R1 P1 H1 ⟨[], R1, .nil, rfl, h1⟩ h2 h3 h4
end
theorem le_two : 2 ≤ sizeLine := by decide
end AL
namespace AL
section
open PySem L2 PySem.Spec PyProof.Rows
variable {L : List Str} {X : Cx} {ex : EX} {δ δ' : SL} {R R' : RL} {e : Expr}
theorem ao_none {post : Option Int → RL → Prop} (h : post none R) : AO X ex none δ R post := h
theorem ao_some {post : Option Int → RL → Prop} (h : AE X ex e δ R fun x R1 => ∃ i : Int, x = .i i ∧ post (some i) R1) : AO X ex (some e) δ R post := h
end
end AL
namespace AL
section
open PySem L2 PySem.Spec PyProof.Rows
variable {X : Cx} {ex : EX} {δ δ' : SL} {R R' : RL} {D : AEnds} {st : Stmt} {sts : List Stmt}
/-- a cut: M holds between the first statement and the rest -/
theorem as_cut (M : SL → RL → Prop) (h : AS X ex st δ R ⟨Wk M, D.rt, D.bk, D.ct⟩) (k : ∀ δ R, M δ R → ASs X ex sts δ R D) : ASs X ex (st :: sts) δ R D := fun σ P H hS hW hT => by
  refine wSs_of (pss_cons ps_w pss_w) ?_
  refine wS_mono (h σ P H hS hW hT) ?_ (fun _ _ q => q) (fun _ _ q => q) (fun _ _ q => q)
  rintro σ' H' q
  obtain ⟨δ', R', P', h1, h2, h3, h4⟩ := liftS_wk q
  exact wSs_lift h4 (k _ _ h1 σ' P' H' h2 h3 (hT.step h4))
end
end AL
namespace AL
theorem atI_mapN {α β : Type} {f : α → β} {xs : List α} {j : Nat} (h : j < xs.length) : L2.atI (xs.map f) (j : Int) = some (f (xs[j]'h)) := by
  rw [atI_map, L2.atI_nat (List.getElem?_eq_getElem h)]; rfl
theorem atI_N {α : Type} {xs : List α} {j : Nat} (h : j < xs.length) : L2.atI xs (j : Int) = some (xs[j]'h) := L2.atI_nat (List.getElem?_eq_getElem h)
end AL
namespace AL
open PySem L2 PySem.Spec PyProof.Rows
/-! ### isinstance -/
def tyD : PyData → String
  | .none => "NoneType"
  | .bool _ => "bool"
  | .int _ => "int"
  | .str _ => "str"
  | .list _ => "list"
  | .tuple _ => "tuple"
  | .dict _ => "dict"
theorem tyX_of {K : PySem.W.Frag} {P H : Hp} {v : V} {x : PyData} (h : Dp K P v x) (s : Same P H) : TyX K H v (.type (tyD x)) := by
  cases h with
  | non => exact .base .non
  | bl b => exact .base (.bl b)
  | int i => exact .base (.int i)
  | str z => exact .base (.str z)
  | lst hs _ =>
    rcases s.seq hs with (h | ⟨o, h⟩) | ⟨o, its, n, h1, h2, _⟩
    · exact .base (.lst h)
    · exact .base (.frz h)
    · exact .kList h1 h2
  | tup hs _ =>
    rcases sqT_mono s hs with (h | ⟨o, h⟩) | ⟨o, its, n, h1, h2, _⟩
    · exact .base (.tup h)
    · exact .fTuple h
    · exact .kTuple h1 h2
def isTup : PyData → Bool
  | .tuple _ => true
  | _ => false
def isLst : PyData → Bool
  | .list _ => true
  | _ => false
def isBol : PyData → Bool
  | .bool _ => true
  | _ => false
def isInt : PyData → Bool
  | .bool _ => true
  | .int _ => true
  | _ => false
def isTxt : PyData → Bool
  | .str _ => true
  | _ => false
theorem kit_tuple (x : PyData) : kitB (tyD x) "tuple" = some (isTup x) := by cases x <;> (dsimp only [tyD, isTup, isLst, isBol, isInt, isTxt]; decide +kernel)
theorem kit_list (x : PyData) : kitB (tyD x) "list" = some (isLst x) := by cases x <;> (dsimp only [tyD, isTup, isLst, isBol, isInt, isTxt]; decide +kernel)
theorem kit_bool (x : PyData) : kitB (tyD x) "bool" = some (isBol x) := by cases x <;> (dsimp only [tyD, isTup, isLst, isBol, isInt, isTxt]; decide +kernel)
theorem kit_int (x : PyData) : kitB (tyD x) "int" = some (isInt x) := by cases x <;> (dsimp only [tyD, isTup, isLst, isBol, isInt, isTxt]; decide +kernel)
theorem kit_str (x : PyData) : kitB (tyD x) "str" = some (isTxt x) := by cases x <;> (dsimp only [tyD, isTup, isLst, isBol, isInt, isTxt]; decide +kernel)
section
variable {L : List Str} {X : Cx} {ex : EX} {δ δ' : SL} {R R' : RL} {D : AEnds} {e o : Expr} {es : List Expr} {pos p2 : Pos} {post : A → RL → Prop} {x : PyData} {T : String} {b : Bool}
theorem ca_isi (hk : kitB (tyD x) T = some b) (hc : ∀ u, RelV (.ty T) u → ClsV (.ty T) u) (k : post (.b b) R) : CA X (.builtin "isinstance") [.d x, .ty T] R post := ⟨_, call_isi, fun P H xs ha hW Q q => by
  obtain ⟨v, w, rfl, h1, h2⟩ := pav2 ha
  cases (show w = .ty T from h2)
  exact ⟨v, .ty T, .type (tyD x), .type T, b, rfl, hc _ rfl, tyX_of h1 hW.sub, kit_ty hk, q _ _ R P H k aBl hW Stp.refl⟩⟩
end
section
variable {X : Cx} {ex : EX} {δ : SL} {R : RL} {pos : Pos} {post : A → RL → Prop} {x : PyData}
theorem ca_isTup (k : post (.b (isTup x)) R) : CA X (.builtin "isinstance") [.d x, .ty "tuple"] R post := ca_isi (kit_tuple x) (fun u h => by cases h; constructor) k
theorem ca_isLst (k : post (.b (isLst x)) R) : CA X (.builtin "isinstance") [.d x, .ty "list"] R post := ca_isi (kit_list x) (fun u h => by cases h; constructor) k
theorem ca_isBol (k : post (.b (isBol x)) R) : CA X (.builtin "isinstance") [.d x, .ty "bool"] R post := ca_isi (kit_bool x) (fun u h => by cases h; constructor) k
theorem ca_isInt (k : post (.b (isInt x)) R) : CA X (.builtin "isinstance") [.d x, .ty "int"] R post := ca_isi (kit_int x) (fun u h => by cases h; constructor) k
theorem ca_isTxt (k : post (.b (isTxt x)) R) : CA X (.builtin "isinstance") [.d x, .ty "str"] R post := ca_isi (kit_str x) (fun u h => by cases h; constructor) k
/-- a built-in class by its name -/
theorem ae_ty {x : Str} {T : String} (hm : X.mg x = none) (hv : bootBuiltins x = some (.type T)) (k : post (.ty T) R) (hg : Gl X x := by rfl) (hn : x ≠ "__name__" := by decide) (hd : (x == ("__debug__" : Str)) = false := by decide) : AE X ex (.Name x pos) δ R post := fun σ P H hS hW hT Q q =>
  wE_of (pe_bltn (v := .ty T) hg hm hv rfl hn hd) (q _ _ R P H k rfl hW Stp.refl)
theorem ae_tyTuple (hm : X.mg "tuple" = none) (k : post (.ty "tuple") R) (hg : Gl X "tuple" := by rfl) : AE X ex (.Name "tuple" pos) δ R post := ae_ty hm (by decide +kernel) k hg (by decide) (by decide)
theorem ae_tyList (hm : X.mg "list" = none) (k : post (.ty "list") R) (hg : Gl X "list" := by rfl) : AE X ex (.Name "list" pos) δ R post := ae_ty hm (by decide +kernel) k hg (by decide) (by decide)
theorem ae_tyBool (hm : X.mg "bool" = none) (k : post (.ty "bool") R) (hg : Gl X "bool" := by rfl) : AE X ex (.Name "bool" pos) δ R post := ae_ty hm (by decide +kernel) k hg (by decide) (by decide)
theorem ae_tyInt (hm : X.mg "int" = none) (k : post (.ty "int") R) (hg : Gl X "int" := by rfl) : AE X ex (.Name "int" pos) δ R post := ae_ty hm (by decide +kernel) k hg (by decide) (by decide)
theorem ae_tyStr (hm : X.mg "str" = none) (k : post (.ty "str") R) (hg : Gl X "str" := by rfl) : AE X ex (.Name "str" pos) δ R post := ae_ty hm (by decide +kernel) k hg (by decide) (by decide)
end
end AL
namespace AL
open PySem L2 PySem.Spec PyProof.Rows
/-! ### tuples that are keys -/
def kA (k : Key) : A := .d (kD k)
theorem pav_keys {K : PySem.W.Frag} {P : Hp} : ∀ ks : List Key, PAv K P (ks.map kV) (ks.map kA)
  | [] => .nil
  | k :: ks => .cons (kD_dp k) (pav_keys ks)
theorem keys_v {K : PySem.W.Frag} {P : Hp} : ∀ {ks : List Key} {vs : List V}, PAv K P vs (ks.map kA) → vs = ks.map kV
  | [], _, .nil => rfl
  | k :: ks, _, .cons h t => by rw [kD_v (show Dp K P _ (kD k) from h), keys_v t]; rfl
section
variable {L : List Str} {X : Cx} {ex : EX} {δ δ' : SL} {R R' : RL} {D : AEnds} {e o i : Expr} {es : List Expr} {pos p2 : Pos} {post : A → RL → Prop} {U : Res → RL} {p : Addr} {xs : List A} {n : Int} {c : A} {value slice : Expr} {ks : List Key} {ky : Key}
theorem tk_get {K : PySem.W.Frag} {P H : Hp} {v : V} (h : Av K P v (.tk ks)) (w : Wd K R P H) : ∃ t, v = .ref t ∧ H t = some (.tup (ks.map kV)) := by
  obtain ⟨t, e1, e2⟩ := h
  exact ⟨t, e1, w.sub _ _ e2⟩
theorem ae_tupK {j : Nat} (h : AEs X ex es δ R fun xs R1 => ∃ ks : List Key, xs = ks.map kA ∧ ks.length ≤ sizeLine ∧ post (.tk ks) R1) : AE X ex (.Tuple es j pos) δ R post := fun σ P H hS hW hT Q q => by
  refine wE_of (pe_tup pa_w) ?_
  refine h σ P H hS hW hT _ fun vs xs R1 P1 H1 h1 h2 h3 h4 => ?_
  obtain ⟨ks, rfl, hl, k⟩ := h1
  obtain rfl := keys_v h2
  refine ⟨by rw [List.length_map]; exact hl, fun r hr => ?_⟩
  exact q _ _ R1 _ _ k ⟨r, rfl, upd_same⟩ (h3.pure hr) (h4.trans (stp_pure h3 hr))
theorem ia_tk (ha : atI ks n = some ky) (k : post (kA ky) R) (hp : PlainIx slice := by exact fun _ _ => rfl) : IA X value slice (.tk ks) (.i n) R post := fun P H v w hv hw hW Q q pins s σ u u' I r1 r2 => by
  cases hw
  obtain ⟨t, rfl, ht⟩ := tk_get hv hW
  exact ix_tup value slice pins s σ H _ _ u u' Q I r1 r2 ⟨t, _, n, kV ky, rfl, rfl, SqT.of ht, by rw [atI_map, ha]; rfl, q _ _ R P H k (kD_dp ky) hW Stp.refl⟩ (hp _ _)
theorem ag_tupK {tgs : List Expr} {j : Nat} {q : SL → RL → Prop} (hX : XD X L) (h : AGs X ex tgs (ks.map kA) δ R q)
    (hn : (assignEach tgs X.env).length = ks.length := by rfl) (hst : (assignEach tgs X.env).findIdx? (·.1) = none := by rfl) : AG X ex (.Tuple tgs j pos) (.tk ks) δ R q := fun σ P H v hS hW hT hv => by
  obtain ⟨t, rfl, ht⟩ := tk_get hv hW
  refine wG_of (pg_tup hX.calm pgs_w hn hst) ⟨_, _, rfl, SqT.of ht, by rw [List.length_map], ?_⟩
  exact h σ P H _ hS hW hT (pav_keys ks)
theorem ai_tk {tg : Expr} {postI : List A → (RL → Prop) → RL → Prop} (h : AE X ex e δ R fun x R1 => ∃ ks, x = .tk ks ∧ postI (ks.map kA) (fun _ => True) R1) : AI X ex tg e δ R postI := fun σ P H hS hW hT Rr q => by
  refine wI_of (pi_tup pe_w) ?_
  refine h σ P H hS hW hT _ fun v x R1 P1 H1 h1 h2 h3 h4 => ?_
  obtain ⟨ks, rfl, k⟩ := h1
  obtain ⟨t, rfl, ht⟩ := (show ∃ t, v = .ref t ∧ P1 t = some (.tup (ks.map kV)) from h2)
  exact ⟨t, rfl, ⟨_, SqT.of (h3.sub _ _ ht)⟩, q _ _ _ R1 P1 H1 k (ita_t (SqT.of ht) (pav_keys ks)) h3 h4⟩
theorem ca_tupleK (hs : Sel R p (.lst xs) U) (hx : xs = ks.map kA) (k : post (.tk ks) R) : CA X (.type "tuple") [.ptr p] R post :=
  ⟨_, call_tuple_of, fun P H ys ha hW Q q => by
    obtain ⟨y, rfl, h1⟩ := pav1 ha
    cases (show y = .ref p from h1)
    obtain ⟨vs, h2, h3⟩ := hW.get hs
    subst hx
    obtain rfl := keys_v h3
    exact ⟨p, _, rfl, .inl ⟨SqL.of h2, fun r hr => q _ _ R _ _ k ⟨r, rfl, upd_same⟩ (hW.pure hr) (stp_pure hW hr)⟩⟩⟩
/-- dicts of tuple keys -/
theorem ia_dTk {kvs : List (List Key × A)} (hu : XU X) (hs : Sel R p (.dT kvs) U) (ha : lkA kvs ks = some c) (k : post c R) (hp : NoSl slice := by exact fun _ _ => rfl) : IA X value slice (.ptr p) (.tk ks) R post := fun P H v w hv hw hW Q q pins s σ u u' I r1 r2 => by
  cases (show v = .ref p from hv)
  obtain rfl : u = Value.ref p := r1
  obtain ⟨ws, h1, h2⟩ := hW.get hs
  obtain ⟨t, rfl, ht⟩ := tk_get hw hW
  obtain ⟨y, e, hy⟩ := (pkv_lk h2).1 c ha
  have g : DGet H p (.ref t) (some y) := by rw [← e]; exact DGet.t h1 ht
  exact subTail_of PySem.F.slot_dict_getitem.lookup hp (dict_typeIs I g) (d_getItem (by omega) I g r2 fun w' s3 I3 rw' => ⟨y, H, I3, rw', q _ _ R P H k hy hW Stp.refl⟩)
theorem ba_ninT {kvs : List (List Key × A)} (hu : XU X) (hs : Sel R p (.dT kvs) U) (k : post (.b (!(lkA kvs ks).isSome)) R) : BA X (compareOp .NotIn) (.tk ks) (.ptr p) R post := by
  intro P H x y ha hb hW Q q pins st σ v u I r1 r2
  cases (show y = .ref p from hb)
  obtain rfl : u = Value.ref p := r2
  obtain ⟨ws, h1, h2⟩ := hW.get hs
  obtain ⟨t, rfl, ht⟩ := tk_get ha hW
  refine d_notIn (o := valV ws ks) (by omega) I (DGet.t h1 ht) r1 fun s' I' => ?_
  rw [pkv_isSome h2]
  exact ⟨.bl _, H, I', rfl, q _ _ R P H k aBl hW Stp.refl⟩
theorem sta_dTk {kvs : List (List Key × A)} {v : A} {q : RL → Prop} (hu : XU X) (hs : Sel R p (.dT kvs) U) (hl : kvs.length < sizeLine) (k : q (U (.dT (putA kvs ks v)))) : StA X (.ptr p) (.tk ks) v R q :=
  sta_dT hu hs (fun P H w hW hw => tk_get hw hW) hl k
theorem pkv_getD {κ : Type} [DecidableEq κ] {K : PySem.W.Frag} {P : Hp} {k : κ} {vs : List (κ × V)} {xs : List (κ × A)} {z : V} {d : A} (h : PKv K P vs xs) (hz : Av K P z d) : Av K P ((valV vs k).getD z) ((lkA xs k).getD d) := by
  obtain ⟨h1, h2⟩ := pkv_lk (k := k) h
  cases e : lkA xs k with
  | none => rw [h2 e]; exact hz
  | some c => obtain ⟨v, q, hv⟩ := h1 c e; rw [q]; exact hv
/-- d.get(k, x) -/
theorem ae_dget2T {apos cpos : Pos} {f : Expr} (hu : XU X) (m : M2 X o "get" apos e f cpos)
    (h : AE X ex o δ R fun x R1 => ∃ p kvs U, x = .ptr p ∧ Sel R1 p (.dT kvs) U ∧ AE X ex e δ R1 fun y R2 => ∃ ks, y = .tk ks ∧ AE X ex f δ R2 fun z R3 => ∃ kvs U, Sel R3 p (.dT kvs) U ∧ post ((lkA kvs ks).getD z) R3) :
    AE X ex (.Call (.Attribute o "get" apos) [e, f] [] cpos) δ R post := fun σ P H hS hW hT Q q => by
  refine wE_of (pe_dget2 (show X.A.units + 1 < cLine by have := hu; show _; omega) pe_w pe_w pe_w m) ?_
  refine h σ P H hS hW hT _ fun v x R1 P1 H1 h1 h2 h3 h4 => ?_
  obtain ⟨p, kvs, U, rfl, hs, h1⟩ := h1
  cases (show v = .ref p from h2)
  obtain ⟨ws, e1, e2⟩ := h3.get hs
  refine ⟨p, rfl, .inr ⟨ws, .inl e1⟩, ?_⟩
  refine h1 σ P1 H1 (hS.mono h4.ex) h3 (hT.step h4) _ fun y ya R2 P2 H2 k1 k2 k3 k4 => ?_
  obtain ⟨ks, rfl, k1⟩ := k1
  have s2 := h4.trans k4
  refine k1 σ P2 H2 (hS.mono s2.ex) k3 (hT.step s2) _ fun z za R3 P3 H3 m1 m2 m3 m4 => ?_
  obtain ⟨kvs3, U3, hs3, kk⟩ := m1
  obtain ⟨ws3, e3, e4⟩ := m3.get hs3
  obtain ⟨t, rfl, ht⟩ := tk_get (av_mono m4.ex k2) m3
  exact ⟨_, DGet.t e3 ht, q _ _ R3 P3 H3 kk (pkv_getD e4 m2) m3 (s2.trans m4)⟩
end
end AL
namespace AL
open PySem L2 PySem.Spec PyProof.Rows
section
variable {X : Cx} {ex : EX} {δ : SL} {R R' : RL} {D : AEnds} {post : A → RL → Prop} {U : Res → RL} {p C : Addr} {fs : List (Str × A)} {f m : Str} {c v : A} {K : PySem.W.Frag}
theorem fld_of {q : A → RL → Prop} (hs : Sel R p (.ins C fs) U) (hc : Cls X.K C) (hn : NoAttr X.K C f) (hl : fs.lookup f = some c) (k : q c R) : FldA X f (.ptr p) R q := ⟨p, C, fs, U, c, rfl, hs, hc, hn, hl, k⟩
theorem fset_of {q : RL → Prop} (hs : Sel R p (.ins C fs) U) (hc : Cls X.K C) (hn : NoAttr X.K C f) (hl : fs.length < 1000) (k : q (U (.ins C (putFA f v fs)))) : FstA X f v (.ptr p) R q := ⟨p, C, fs, U, rfl, hs, hc, hn, hl, k⟩
theorem meth_of {q : Addr → Prop} (hs : Sel R p (.ins C fs) U) (hl : fs.lookup m = none) (k : q p) : MthA C m (.ptr p) R q := ⟨p, fs, U, rfl, hs, hl, k⟩
theorem app_of {xs : List A} {q : Addr → Prop} (hs : Sel R p (.lst xs) U) (k : q p) : LstA (.ptr p) R q := ⟨p, xs, U, rfl, hs, k⟩
end
end AL

namespace AL
open PySem L2 PySem.Spec PyProof.Rows
section
variable {L : List Str} {X X' : Cx} {ex : EX} {scope : Scope} {own : List (Str × Nat)} {δ δ' δb : SL} {R R' : RL} {D : AEnds} {e elt tg iter c : Expr} {ifs : List Expr} {pos p2 : Pos} {post : A → RL → Prop} {p : Addr} {U : Res → RL}
theorem ca_min_lst {ns : List Int} (hc : X.calm = true) (hs : Sel R p (.lst (ns.map A.i)) U) (hne : 0 < ns.length) (k : ∀ m, m ∈ ns → (∀ y, y ∈ ns → m ≤ y) → post (.i m) R) : CA X (.builtin "min") [.ptr p] R post :=
  ⟨_, cr_min hc, fun P H ys ha hW Q q => by
    obtain ⟨y, rfl, h1⟩ := pav1 ha
    cases (show y = .ref p from h1)
    obtain ⟨vs, h2, h3⟩ := hW.get hs
    obtain rfl := ints_v h3
    exact ⟨p, ns, rfl, SqL.of h2, hne, fun m h1 h2 => q _ _ R P H (k m h1 h2) aInt hW Stp.refl⟩⟩
theorem cr_sumTup (hc : X.calm = true) : CallR X (.builtin "sum") (fun vs H Q => ∃ (a : Addr) (ns : List Int), vs = [V.ref a] ∧ SqT X.K H a (ns.map V.int) ∧ Q (.int ns.sum) H) := by
  intro pins s σ H vs us Q I r h
  obtain ⟨a, ns, rfl, hs, q⟩ := h
  obtain ⟨its, rv, hl, _⟩ := I.tuple hs
  rw [Vals.ref1 r]
  have hi := rv.ints
  obtain ⟨xs, e⟩ := hi.allInts.items
  have hn : numsOf (intItems xs).toList = ns := by rw [← e]; exact hi.numsOf
  rw [nums_intItems] at hn
  have hl2 := hl
  rw [e] at hl2
  refine PySem.W.ktm_sumG (I.ok.hd hc) hl2 fun h' tk t' hk => ?_
  rw [preSum_eq, List.take_of_length_le (by simp), hn]
  exact ⟨.int _, H, I.kept hk, ⟨_, rfl⟩, q⟩
theorem ca_sum_t {ns : List Int} (hc : X.calm = true) (k : post (.i ns.sum) R) : CA X (.builtin "sum") [.t (ns.map .int)] R post :=
  CA.val1 (cr_sumTup hc) k (fun _ => aInt) fun P H y ha hW Q q => by
    have ha : Dp X.K P y (.tuple (ns.map .int)) := ha
    cases ha with
    | tup hs hd =>
      obtain rfl := ints_d hd
      exact ⟨_, ns, rfl, sqT_mono hW.sub hs, q⟩
theorem ca_max_lst {ns : List Int} (hc : X.calm = true) (hs : Sel R p (.lst (ns.map A.i)) U) (hne : 0 < ns.length) (k : ∀ m, m ∈ ns → (∀ y, y ∈ ns → y ≤ m) → post (.i m) R) : CA X (.builtin "max") [.ptr p] R post :=
  ⟨_, cr_max hc, fun P H ys ha hW Q q => by
    obtain ⟨y, rfl, h1⟩ := pav1 ha
    cases (show y = .ref p from h1)
    obtain ⟨vs, h2, h3⟩ := hW.get hs
    obtain rfl := ints_v h3
    exact ⟨p, ns, rfl, SqL.of h2, hne, fun m h1 h2 => q _ _ R P H (k m h1 h2) aInt hW Stp.refl⟩⟩
theorem lk_relabel {env : Env} {x : Str} : ∀ {names : List (Str × NameKind)} {k : NameKind}, names.lookup x = some k →
    (names.map fun (n, k) => if (k == NameKind.free && env.scope.kind == ScopeKind.function && env.kindOf n == some NameKind.cell) then (n, NameKind.cell) else (n, k)).lookup x = some (if (k == NameKind.free && env.scope.kind == ScopeKind.function && env.kindOf x == some NameKind.cell) then NameKind.cell else k)
  | (n, k0) :: r, k, h => by
    rw [List.map_cons, List.lookup_cons]
    rw [List.lookup_cons] at h
    have e1 : (if (k0 == NameKind.free && env.scope.kind == ScopeKind.function && env.kindOf n == some NameKind.cell) = true then (n, NameKind.cell) else (n, k0)).1 = n := by split <;> rfl
    show (match x == (if (k0 == NameKind.free && env.scope.kind == ScopeKind.function && env.kindOf n == some NameKind.cell) = true then (n, NameKind.cell) else (n, k0)).1 with
      | true => some (if (k0 == NameKind.free && env.scope.kind == ScopeKind.function && env.kindOf n == some NameKind.cell) = true then (n, NameKind.cell) else (n, k0)).2
      | false => _) = _
    rw [e1]
    cases hx : x == n with
    | true =>
      rw [hx] at h
      obtain rfl := Option.some.inj h
      obtain rfl := eq_of_beq hx
      show some _ = some _
      congr 1
      split <;> rfl
    | false =>
      rw [hx] at h
      exact lk_relabel h
/-- a name that a block sees -/
def visB (scope : Scope) (x : Str) : Bool := (scope.names.lookup x == some .local || scope.names.lookup x == some .cell || scope.names.lookup x == some .free) && !(x == ("__debug__" : Str)) && !(x == ("__classdict__" : Str))
theorem bx_vis {x : Str} (hb : visB scope x = true) : ∀ X', BX X scope X' → VisX X' x := by
  rintro X' ⟨s, H, C, cl, fp, rfl⟩
  unfold visB at hb
  simp only [Bool.and_eq_true, Bool.or_eq_true, beq_iff_eq, Bool.not_eq_true'] at hb
  obtain ⟨⟨h1, h2⟩, h3⟩ := hb
  refine ⟨?_, h2, h3⟩
  show (relabel scope X.env).names.lookup x = _ ∨ (relabel scope X.env).names.lookup x = _ ∨ (relabel scope X.env).names.lookup x = _
  rcases h1 with (h1 | h1) | h1
  · exact .inl (lk_relabel h1)
  · exact .inr (.inl (lk_relabel h1))
  · have := lk_relabel (env := X.env) h1
    by_cases e : (NameKind.free == NameKind.free && X.env.scope.kind == ScopeKind.function && X.env.kindOf x == some NameKind.cell) = true
    · rw [if_pos e] at this; exact .inr (.inl this)
    · rw [if_neg e] at this; exact .inr (.inr this)
theorem agb_own {x : Str} {a : A} {i : Nat} {vs : List Nat} {q : SL → RL → Prop} (hx : BX X scope X') (nd : X.N.Nodup) (hi : X.N[i]? = some x) (hm : i ∈ vs) (hl : scope.names.lookup x = some .local) (hb : visB scope x = true) (u : Up δ x a δ') (k : q δ' R) : AGB X' vs (.Name x pos) a δ R q := by
  have v := bx_vis hb X' hx
  obtain ⟨s, H, C, cl, fp, rfl⟩ := hx
  have e : (relabel scope X.env).names.lookup x = some .local := lk_relabel hl
  exact agb_name nd hi hm (.inl e) (.inr e) v u k
/-- the list that grows, and the rest -/
def OutR (R : RL) (D : Addr) (acc : List A) (R0 : RL) : Prop := ∃ R5, Rem R D (.lst acc) R5 ∧ Le R5 R0
/-- one name, and what each member gives -/
theorem lc_fm {x : Str} {i : Nat} (g : A → Option A) (xs : List A) (R0 : RL) (hX : XD X L) (hi : X.N[i]? = some x) (hm : i ∈ own.map (·.2)) (hl : scope.names.lookup x = some .local) (hv : visB scope x = true)
    (h : AI X ex (.Name x p2) iter δ R fun xs' need R1 => xs' = xs ∧ Le R1 R0 ∧ xs.length < sizeLine ∧ (∀ D acc, need ((D, .lst acc) :: R0)) ∧
      (∀ D acc c, c ∈ xs → ∃ δ2, Up δb x c δ2 ∧ ∀ X', BX X scope X' → AIf X' ifs δ2 ((D, .lst acc) :: R0) fun b R3 =>
        (b = true → ∀ X', BX X scope X' → AE X' EX0 elt δ2 R3 fun y R4 => g c = some y ∧ OutR R4 D acc R0) ∧ (b = false → g c = none ∧ OutR R3 D acc R0)) ∧
      ∀ D, post (.ptr D) ((D, .lst (xs.filterMap g)) :: R0)) :
    LcAsk X ex elt (.Name x p2) iter ifs scope own δ δb R (fun i acc R => R = R0 ∧ acc = (xs.take i).filterMap g ∧ xs.length < sizeLine) post := by
  intro σ P H hS hW hT Rr q
  refine h σ P H hS hW hT Rr fun J xs' need R1 P1 H1 k1 k2 k3 k4 => q J xs' need R1 P1 H1 ?_ k2 k3 k4
  obtain ⟨rfl, l0, hlen, kn, ks, kd⟩ := k1
  refine ⟨⟨R0, l0, rfl, rfl, hlen⟩, ?_, ?_, ?_⟩
  · rintro D i acc R ⟨rfl, _, _⟩
    exact kn D acc
  · rintro D i c acc R hc ⟨rfl, hacc, _⟩
    obtain ⟨δ2, u, k⟩ := ks D acc c (List.mem_of_getElem? hc)
    have et : (xs'.take (i + 1)).filterMap g = acc ++ (g c).toList := by
      rw [List.take_succ, hc, List.filterMap_append, ← hacc]
      congr 1
    refine ⟨δ2, fun X' hx => agb_own hx hX.nd hi hm hl hv u ⟨rfl, rfl⟩, fun X' hx => ?_⟩
    have kx := k X' hx
    revert kx
    unfold AIf
    have fin1 : ∀ {R3 : RL} {D : Addr} {acc : List A} {R : RL}, OutR R3 D acc R → ∃ R5 R6, Rem R3 D (.lst acc) R5 ∧ Le R5 R6 ∧ R6 = R := by
      intro R3 D acc R hle
      obtain ⟨R5, h1, h2⟩ := hle
      exact ⟨R5, R, h1, h2, rfl⟩
    have conv : ∀ (b : Bool) (R3 : RL), ((b = true → ∀ X', BX X scope X' → AE X' EX0 elt δ2 R3 fun y R4 => g c = some y ∧ OutR R4 D acc R) ∧ (b = false → g c = none ∧ OutR R3 D acc R)) →
        (b = true → ∀ X', BX X scope X' → AE X' EX0 elt δ2 R3 fun y R4 => ∃ R5 R6, Rem R4 D (.lst acc) R5 ∧ Le R5 R6 ∧ acc.length < sizeLine ∧ R6 = R ∧ acc ++ [y] = (xs'.take (i + 1)).filterMap g ∧ xs'.length < sizeLine) ∧
        (b = false → ∃ R5 R6, Rem R3 D (.lst acc) R5 ∧ Le R5 R6 ∧ R6 = R ∧ acc = (xs'.take (i + 1)).filterMap g ∧ xs'.length < sizeLine) := by
      rintro b R3 ⟨z1, z2⟩
      refine ⟨fun hb X' hx σ P H hS hW hT Q q => z1 hb X' hx σ P H hS hW hT Q fun v y R4 P4 H4 m1 m2 m3 m4 => q v y R4 P4 H4 ?_ m2 m3 m4, fun hb => ?_⟩
      · obtain ⟨m1, m5⟩ := m1
        obtain ⟨R5, R6, n1, n2, n3⟩ := fin1 m5
        refine ⟨R5, R6, n1, n2, ?_, n3, ?_, hlen⟩
        · have h1 : acc.length ≤ (xs'.take i).length := by rw [hacc]; exact List.length_filterMap_le ..
          rw [List.length_take] at h1
          omega
        · rw [et, m1]; rfl
      · obtain ⟨m1, m5⟩ := z2 hb
        obtain ⟨R5, R6, n1, n2, n3⟩ := fin1 m5
        exact ⟨R5, R6, n1, n2, n3, by rw [et, m1]; simp, hlen⟩
    match ifs with
    | [] => exact fun kx => conv _ _ kx
    | [c] => exact fun kx σ P H hS hW hT Q q => kx σ P H hS hW hT Q fun b R3 P3 H3 m1 m2 m3 => q b R3 P3 H3 (conv _ _ m1) m2 m3
    | _ :: _ :: _ => exact fun kx => kx.elim
  · rintro D acc R ⟨rfl, hacc, _⟩
    rw [List.take_length] at hacc
    subst hacc
    exact kd D
end
theorem Le.drop {x : Addr × Res} {R : RL} : Le (x :: R) R := ⟨fun y h => List.mem_cons_of_mem _ h, fun h => (List.nodup_cons.mp h).2⟩
theorem fsp_of {sp : ASp} {xs : List A} {R R0 Rr : RL} {post : A → RL → Prop} {exc : Value → Option Addr → RL → Prop} (hs : Spl R R0 Rr) (h : sp xs R0 (fun x R' => post x (R' ++ Rr)) (fun cls d R' => exc cls d (R' ++ Rr))) : FSp sp xs R post exc := ⟨R0, Rr, hs, h⟩
theorem blkOk_cx {P : Program} {w : World} {K : PySem.W.Frag} {mg : Str → Option Value} {base : Heap} {N : List Str} {qual : Str} {st : Stmt} {f : Addr} {cdv : Value} {Ar : Around} {outer : List Env} {s : Shared} {H : Hp} {E : XK} {scope : Scope} {own : List (Str × Nat)} (h : blkC N (defScope st) scope own = true) :
    BlkOk (cxOf (L2.CX P w) P w K mg base N qual (defScope st) f cdv Ar outer s H E).N (cxOf (L2.CX P w) P w K mg base N qual (defScope st) f cdv Ar outer s H E).env.scope scope own := blkOk_by h
section
variable {L : List Str} {X : Cx} {ex : EX} {δ : SL} {R R' : RL} {o e e2 : Expr} {apos cpos : Pos} {post : A → RL → Prop} {p : Addr} {U : Res → RL} {x y : PyData} {c : A} {xs : List A}
theorem pav_ins {K : PySem.W.Frag} {P : Hp} {vs : List V} {y : V} (n : Nat) (h : PAv K P vs xs) (hy : Av K P y c) : PAv K P (vs.take n ++ [y] ++ vs.drop n) (xs.take n ++ [c] ++ xs.drop n) :=
  pav_append (pav_append (pav_take _ h) (.cons hy .nil)) (pav_drop _ h)
theorem ma_insert {i : Int} (hs : Sel R p (.lst xs) U) (hl : xs.length < sizeLine) (h0 : 0 ≤ i) (h1 : i < 2 ^ 63) (k : post .n (U (.lst (xs.take i.toNat ++ [c] ++ xs.drop i.toNat)))) : MA X "list.insert" (.ptr p) [.i i, c] R post := ⟨_, mt_insert, fun P H v vs hv ha hW Q q => by
  cases (show v = .ref p from hv)
  cases ha with
  | cons a1 a2 =>
    obtain ⟨y, rfl, hy⟩ := pav1 a2
    cases a1
    obtain ⟨ws, e1, e2⟩ := hW.get hs
    exact ⟨p, ws, i, y, rfl, rfl, e1, by rw [e2.length]; exact hl, h0, h1, q _ _ _ P _ k .non (hW.put hs ⟨_, upd_same, pav_ins _ e2 hy⟩) (stp_put hW hs)⟩⟩
theorem ae_insert (h : AE X ex o δ R fun x R1 => LstA x R1 fun p => AEs X ex [e, e2] δ R1 fun ys R2 => MA X "list.insert" (.ptr p) ys R2 post)
    (hbase : attributeBase o "insert" X.env (eval o X.env) = eval o X.env := by rfl)
    (hfew : ((backTo cpos (starEach [e, e2] X.env)).all (fun x => !x.1) && (backToKw cpos (keywordEach [] X.env)).all (fun x => x.1.isSome)
      && decide (([e, e2] : List Expr).length + ([] : List Keyword).length + (if ([] : List Keyword).isEmpty then 0 else 1) < 30)) = true := by rfl)
    (hline : (apos.endLine == cpos.line) = true := by rfl) (hs : starEach [e, e2] X.env = (false, eval e X.env) :: starEach [e2] X.env := by rfl) (hplain : (backTo cpos (starEach [e2] X.env)).any (·.1) = false := by rfl) :
    AE X ex (.Call (.Attribute o "insert" apos) [e, e2] [] cpos) δ R post := ae_bmL PySem.F.slot_list_insert PySem.F.type_list_insert h hbase hfew hline hs hplain
theorem ae_index (h : AE X ex o δ R fun x R1 => LstA x R1 fun p => AEs X ex [e] δ R1 fun ys R2 => MA X "list.index" (.ptr p) ys R2 post)
    (hbase : attributeBase o "index" X.env (eval o X.env) = eval o X.env := by rfl)
    (hfew : ((backTo cpos (starEach [e] X.env)).all (fun x => !x.1) && (backToKw cpos (keywordEach [] X.env)).all (fun x => x.1.isSome)
      && decide (([e] : List Expr).length + ([] : List Keyword).length + (if ([] : List Keyword).isEmpty then 0 else 1) < 30)) = true := by rfl)
    (hline : (apos.endLine == cpos.line) = true := by rfl) (hs : starEach [e] X.env = (false, eval e X.env) :: starEach [] X.env := by rfl) (hplain : (backTo cpos (starEach [] X.env)).any (·.1) = false := by rfl) :
    AE X ex (.Call (.Attribute o "index" apos) [e] [] cpos) δ R post := ae_bmL PySem.F.slot_list_index PySem.F.type_list_index h hbase hfew hline hs hplain
theorem bools_v {K : PySem.W.Frag} {P : Hp} : ∀ {bs : List Bool} {vs : List V}, PAv K P vs (bs.map A.b) → vs = bs.map V.bl
  | [], _, h => by cases h; rfl
  | _ :: _, _, h => by
    cases h with
    | cons h t => cases h; rw [bools_v t]; rfl
theorem ma_indexB {bs : List Bool} {b : Bool} {j : Nat} (hs : Sel R p (.lst (bs.map A.b)) U) (hj : bs[j]? = some b) (hno : ∀ m z, m < j → bs[m]? = some z → z ≠ b) (k : post (.i (j : Int)) R) : MA X "list.index" (.ptr p) [.b b] R post := ⟨_, mt_index, fun P H v vs hv ha hW Q q => by
  cases (show v = .ref p from hv)
  obtain ⟨y, rfl, hy⟩ := pav1 ha
  cases hy
  obtain ⟨ws, e1, e2⟩ := hW.get hs
  obtain rfl := bools_v e2
  refine ⟨p, _, .bl b, j, .bl b, rfl, rfl, SqL.of e1, rfl, ?_, by rw [List.getElem?_map, hj]; rfl, ?_, ?_, q _ _ R P H k aInt hW Stp.refl⟩
  · exact List.all_eq_true.mpr fun z hz => by obtain ⟨_, _, rfl⟩ := List.mem_map.mp hz; rfl
  · cases b <;> rfl
  · intro m z' hm hz
    rw [List.getElem?_map] at hz
    obtain ⟨z, hz2, rfl⟩ := Option.map_eq_some_iff.mp hz
    have := hno m z hm hz2
    cases z <;> cases b <;> first | rfl | exact absurd rfl this⟩
end
/-- flat data: every member can be laid and has no depth beyond d -/
theorem lay_all {ds : List PyData} {n : Nat} (h : ∀ d ∈ ds, PyData.canLay0 d = true ∧ PyData.depth d ≤ n) : PyData.canLayAll0 ds = true ∧ PyData.depthAll ds ≤ n := by
  induction ds with
  | nil => exact ⟨by simp only [PyData.canLayAll0], by simp only [PyData.depthAll]; exact Nat.zero_le _⟩
  | cons d r ih =>
    obtain ⟨h1, h2⟩ := h d List.mem_cons_self
    obtain ⟨h3, h4⟩ := ih fun x hx => h x (List.mem_cons_of_mem _ hx)
    refine ⟨by simp only [PyData.canLayAll0, h1, h3, Bool.and_self], by simp only [PyData.depthAll]; omega⟩
theorem shaped_l {ds : List PyData} {n : Nat} (h : ∀ d ∈ ds, PyData.canLay0 d = true ∧ PyData.depth d ≤ n) (hn : n ≤ 63) : SeqAt.shaped (.list ds) = true := by
  obtain ⟨h1, h2⟩ := lay_all h
  unfold SeqAt.shaped
  rw [show PyData.canLay0 (.list ds) = true by simp only [PyData.canLay0]; exact h1, decide_eq_true (show PyData.depth (.list ds) ≤ 64 by simp only [PyData.depth]; omega)]; rfl
theorem eqv_self {d : PyData} (h : SeqAt.shaped d = true) : PyData.eqv d d = true := SeqAt.eqv_refl d (SeqAt.canLay_of_shaped h)
/-- one name, no condition; the members' making may change the rest -/
theorem lc_st {L : List Str} {X : Cx} {ex : EX} {scope : Scope} {own : List (Str × Nat)} {δ δb : SL} {R : RL} {elt iter : Expr} {p2 : Pos} {post : A → RL → Prop} {x : Str} {i : Nat} {I : Nat → List A → RL → Prop} (hX : XD X L) (hi : X.N[i]? = some x) (hm : i ∈ own.map (·.2)) (hl : scope.names.lookup x = some .local) (hv : visB scope x = true)
    (h : AI X ex (.Name x p2) iter δ R fun xs need R1 => (∃ R0, Le R1 R0 ∧ I 0 [] R0) ∧ (∀ D j acc R, I j acc R → need ((D, .lst acc) :: R)) ∧
      (∀ D j c acc R, xs[j]? = some c → I j acc R → acc.length < sizeLine ∧ ∃ δ2, Up δb x c δ2 ∧ ∀ X', BX X scope X' → AE X' EX0 elt δ2 ((D, .lst acc) :: R) fun y R4 => ∃ R5 R6, Rem R4 D (.lst acc) R5 ∧ Le R5 R6 ∧ I (j + 1) (acc ++ [y]) R6) ∧
      ∀ D acc R, I xs.length acc R → post (.ptr D) ((D, .lst acc) :: R)) :
    LcAsk X ex elt (.Name x p2) iter [] scope own δ δb R I post := by
  intro σ P H hS hW hT Rr q
  refine h σ P H hS hW hT Rr fun J xs need R1 P1 H1 k1 k2 k3 k4 => q J xs need R1 P1 H1 ?_ k2 k3 k4
  obtain ⟨k0, kn, ks, kd⟩ := k1
  refine ⟨k0, kn, fun D j c acc R hc hI => ?_, kd⟩
  obtain ⟨hlen, δ2, u, k⟩ := ks D j c acc R hc hI
  refine ⟨δ2, fun X' hx => agb_own hx hX.nd hi hm hl hv u ⟨rfl, rfl⟩, fun X' hx => ⟨fun _ X2 hx2 σ P H hS hW hT Q q => k X2 hx2 σ P H hS hW hT Q fun v y R4 P4 H4 m1 m2 m3 m4 => q v y R4 P4 H4 ?_ m2 m3 m4, fun z => by cases z⟩⟩
  obtain ⟨R5, R6, a1, a2, a3⟩ := m1
  exact ⟨R5, R6, a1, a2, hlen, a3⟩
end AL

namespace AL
open PySem L2 PySem.Spec PyProof.Rows
/-! ### sorted keys, dict displays -/
section
variable {X : Cx}
/-- sorted(d): a dict whose keys are ints, of any size -/
theorem cr_sortedK (calm : X.calm = true) : CallR X (.builtin "sorted") (fun xs H Q => ∃ (a : Addr) (kvs : List (Key × V)) (ks : List Int), xs = [.ref a] ∧ Rd H a (.dK kvs) ∧ kvs.map (·.1) = ks.map Sum.inl ∧
    ∀ (ys : List Int) (p : Addr), ys.Perm ks → ys.Pairwise (· ≤ ·) → H p = none → Q (.ref p) (upd H p (.lst (ys.map V.int)))) := by
  rintro pins s σ H xs us Q I r ⟨a, kvs, ks, rfl, hrd, hkey, fin⟩
  obtain ⟨u, rfl, rx⟩ := vals1 r
  cases rx
  obtain ⟨hsz, low, vs, kv, dat⟩ := dk_rd I.hok hrd
  obtain ⟨ep, dob⟩ := dat.dictAt
  have hk2 : vs.map (·.1) = ks.map Sum.inl := kv.keys.symm.trans hkey
  have hn : vs.length = ks.length := by simpa using congrArg List.length hk2
  have hv : vs.length ≤ sizeLine := by
    have := congrArg List.length kv.keys
    rw [List.length_map, List.length_map] at this
    rw [← this]; exact hsz
  refine Calls.call_function_entry PyProof.Rows.kind_sorted PyProof.Rows.plain_sorted PyProof.Rows.entry_sorted (PyProof.Rows.args_sorted1 _) ?_
  unfold Builtin.«sorted»
  refine wpAny_bind (m := checkCount "sorted" 1 1 _) (wpAny_pure ?_)
  refine wpAny_bind ?_
  refine PySem.W.kdu_collect (A := X.A.in1) (PySem.W.kdl_dict (knd := mixKind X.prog X.w) (kvs := vs) (ep := ep) low) (I.ok.hd calm) dob hv ?_
  intro h1 tk acc keep hacc
  have hlen : acc.toList.length = ks.length := by rw [Array.length_toList, hacc.1, hn]
  have hI : IntsAre acc.toList ks := by
    refine ints_each hlen fun j v e => ?_
    obtain ⟨k, x, q1, q2⟩ := hacc.2 j v (by rw [← Array.getElem?_toList]; exact e)
    have q3 : (vs.map (·.1))[j]? = some k := by rw [List.getElem?_map, q1]; rfl
    rw [hk2, List.getElem?_map] at q3
    obtain ⟨y, q4, rfl⟩ := Option.map_eq_some_iff.mp q3
    have q5 : keyIs (Sum.inl y) v = true := q2
    rcases keyIs_shape q5 with ⟨i, t, ek, ev⟩ | ⟨z, t, ek, ev⟩
    · cases ek; exact ⟨y, t, q4, ev⟩
    · cases ek
  have I1 : Inv X pins σ H { s with heap := h1, toks := tk } := I.kept keep
  have hal : acc.toList.length ≤ sizeLine := by rw [hlen, ← hn]; exact hv
  refine wpAny_bind (wpAny_newList ?_ hal)
  have hob : (h1.push (seqObj "list" acc.toList.toArray 0)).get? h1.objs.size = some (seqObj "list" acc.toList.toArray 0) := Heap.get?_push_size _ rfl
  show wpAny _ _ _ _ _ { s with heap := h1.push (seqObj "list" acc.toList.toArray 0), toks := tk }
  refine wpAny_bind (wpAny_holding ?_)
  refine wpAny_call_entry PyProof.Rows.slot_list_sort ⟨_, hob, rfl⟩ PyProof.Rows.entry_list_sort ?_ (PyProof.Rows.args_list_sort _)
  refine SrtO.list_sort_ord (s := { s with heap := h1.push (seqObj "list" acc.toList.toArray 0), toks := tk }) SrtO.swo_int hob hal (fun two => SrtO.ints_sortable hI two) fun out o1 o2 => ⟨_, rfl, ?_⟩
  obtain ⟨k1, k2, k3⟩ := SrtO.ints_out hI o1 o2
  obtain ⟨e2, at2⟩ := PyProof.Rows.sortedHeap_at (vs := acc.toList) (out := out.toArray) hob
  have l2 : ((out.map SrtO.iv).map V.int).length ≤ sizeLine := by
    rw [List.length_map, k2.length_eq, ← hlen]; exact hal
  refine wpAny_pure ⟨_, rfl, .ref h1.objs.size, upd H h1.objs.size (.lst ((out.map SrtO.iv).map V.int)), ?_, rfl, fin _ _ k2 k3 (I1.hok.fresh (Nat.le_refl _))⟩
  refine I1.laid (t' := tk) (fun b o e => ?_) (Nat.le_refl _) ⟨l2, out, e2, vals_of_ints k1, at2⟩
  have old : b < h1.objs.size := Heap.lt_size e
  rw [PyProof.Rows.sortedHeap_old (Nat.ne_of_lt old) (by rw [size_push']; exact Nat.lt_succ_of_lt old)]
  exact Heap.get?_push_of_some _ e
end
section
variable {L : List Str} {X : Cx} {ex : EX} {δ δ' : SL} {R R' : RL} {D : AEnds} {e o i : Expr} {pos : Pos} {post : A → RL → Prop} {p : Addr} {U : Res → RL} {k1 k2 v1 v2 : Expr}
theorem pkv_keys {κ : Type} {K : PySem.W.Frag} {P : Hp} {ws : List (κ × V)} {kvs : List (κ × A)} (h : PKv K P ws kvs) : ws.map (·.1) = kvs.map (·.1) := by
  induction h with
  | nil => rfl
  | cons q _ ih => rw [List.map_cons, List.map_cons, q.1, ih]
theorem ca_sortedK {kvs : List (Key × A)} {ks : List Int} (hc : X.calm = true) (hs : Sel R p (.dK kvs) U) (hk : kvs.map (·.1) = ks.map Sum.inl) (k : ∀ (q : Addr) (ys : List Int), ys.Perm ks → ys.Pairwise (· ≤ ·) → post (.ptr q) ((q, .lst (ys.map A.i)) :: R)) : CA X (.builtin "sorted") [.ptr p] R post :=
  ⟨_, cr_sortedK hc, fun P H xs ha hW Q q => by
    obtain ⟨y, rfl, h1⟩ := pav1 ha
    cases (show y = .ref p from h1)
    obtain ⟨ws, h2, h3⟩ := hW.get hs
    refine ⟨p, ws, ks, rfl, .inl h2, (pkv_keys h3).trans hk, fun ys r z1 z2 hr => q _ _ _ P _ (k r ys z1 z2) rfl (hW.new hr ⟨_, upd_same, pav_ints ys⟩) (stp_new hr)⟩⟩
where pav_ints {K : PySem.W.Frag} {P : Hp} : ∀ ys : List Int, PAv K P (ys.map V.int) (ys.map A.i)
  | [] => .nil
  | y :: r => .cons aInt (pav_ints r)
/-- {k1: v1, k2: v2} -/
theorem ae_disp2 (h : ∀ p, AE X ex k1 δ ((p, .dK []) :: R) fun x1 R1 => AE X ex v1 δ R1 fun y1 R2 => AE X ex k2 δ R2 fun x2 R3 => AE X ex v2 δ R3 fun y2 R4 =>
    ∃ (ka kb : Key) (R5 : RL), x1 = .d (kD ka) ∧ x2 = .d (kD kb) ∧ Rem R4 p (.dK []) R5 ∧ post (.ptr p) ((p, .dK (putA (putA [] ka y1) kb y2)) :: R5)) : AE X ex (.Dict [some k1, some k2] [v1, v2] pos) δ R post := fun σ P H hS hW hT Q q => by
  refine wE_of (pe_disp (pps_cons pe_w pe_w (pps_cons pe_w pe_w pps_nil)) rfl rfl (by simp) (by show 2 ≤ 15; decide)) ?_
  intro p hp
  have w0 : Wd X.K ((p, .dK []) :: R) P (upd H p (.dK [])) := hW.new hp ⟨[], upd_same, .nil⟩
  have s0 : Stp R ((p, .dK []) :: R) P H P (upd H p (.dK [])) := stp_new hp
  refine h p σ P _ hS w0 (hT.step s0) _ fun x a1 R1 P1 H1 m1 b1 c1 d1 => ?_
  have s1 := s0.trans d1
  refine m1 σ P1 H1 (hS.mono s1.ex) c1 (hT.step s1) _ fun y a2 R2 P2 H2 m2 b2 c2 d2 => ?_
  have s2 := s1.trans d2
  refine m2 σ P2 H2 (hS.mono s2.ex) c2 (hT.step s2) _ fun x' a3 R3 P3 H3 m3 b3 c3 d3 => ?_
  have s3 := s2.trans d3
  refine m3 σ P3 H3 (hS.mono s3.ex) c3 (hT.step s3) _ fun y' a4 R4 P4 H4 m4 b4 c4 d4 => ?_
  have s4 := s3.trans d4
  obtain ⟨ka, kb, R5, rfl, rfl, hr, k⟩ := m4
  have w5 : Wd X.K ((p, .dK []) :: R5) P4 H4 := c4.le (Le.cons hr (Le.refl _))
  obtain ⟨ws, g1, g2⟩ := w5.get Sel.here
  cases g2
  obtain rfl := kD_v (show Dp X.K P1 x (kD ka) from b1)
  obtain rfl := kD_v (show Dp X.K P3 x' (kD kb) from b3)
  refine ⟨g1, [(ka, y), (kb, y')], rfl, (by show 2 ≤ 15; decide), ?_⟩
  have e1 : Av X.K P4 y a2 := av_mono (d3.ex.trans d4.ex) b2
  refine q _ _ _ P4 _ k rfl (w5.put Sel.here ⟨_, upd_same, pkv_put (pkv_put .nil e1) b4⟩) ((s4.le (Le.cons hr (Le.refl _))).trans (stp_put w5 Sel.here))
end
section
variable {L : List Str} {X : Cx} {ex : EX} {δ δ' : SL} {R R' : RL} {D : AEnds} {e o tg iter c : Expr} {es : List Expr} {body : List Stmt} {pos p2 : Pos} {p : Addr} {xs : List A} {ds : List PyData} {U : Res → RL} {postI : List A → (RL → Prop) → RL → Prop}
/-- a loop whose invariant may speak of what is walked -/
theorem as_forX (I : List A → Nat → SL → RL → Prop) (hX : XD X L)
    (h : AI X ex tg iter δ R fun xs need R1 => Wk (I xs 0) δ R1 ∧ (∀ i δ R, I xs i δ R → need R) ∧
      (∀ (i : Nat) c δ R, xs[i]? = some c → I xs i δ R → AG X ex tg c δ R fun δ2 R2 => ASs X ex body δ2 R2 ⟨Wk (I xs (i + 1)), D.rt, Wk D.nx, Wk (I xs (i + 1))⟩) ∧ (∀ δ R, I xs xs.length δ R → D.nx δ R))
    (hs : ∀ x, foldedSetIterable iter X.env x = pure x := by intro _; rfl) : AS X ex (.For tg iter body [] pos) δ R D := fun σ P H hS hW hT => by
  refine wS_of (ps_for hX.pass hX.calm pi_w pg_w pss_w hs) ?_
  refine h σ P H hS hW hT _ fun J xs need R1 P1 H1 h1 h2 h3 h4 => ?_
  obtain ⟨k0, kn, ks, kd⟩ := h1
  refine ⟨fun i m σ' H' => m = xs.length - i ∧ i ≤ xs.length ∧ liftS X R1 P1 H1 (I xs i) σ' H', ⟨xs.length, by simp, Nat.zero_le _, liftS_wk ⟨δ, R1, P1, k0, hS.mono h4.ex, h3, Stp.refl⟩⟩, ?_⟩
  rintro i m σ' H' ⟨rfl, hi, δ', R', P', q1, q2, q3, q4⟩
  by_cases hlt : i < xs.length
  · refine .inr ⟨h2.go i R' P' H' hlt (kn _ _ _ q1) q4.ex q3, liftS X R1 P1 H1 (I xs (i + 1)), fun σ2 H2 n => ⟨xs.length - (i + 1), by omega, rfl, hlt, n⟩, fun v H2 y => ?_⟩
    obtain ⟨P2, c, e1, e2, e3, e4⟩ := h2.yld i R' P' H' v H2 (kn _ _ _ q1) q4.ex q3 hlt y
    have s2 := q4.trans e4
    have s0 := h4.trans s2
    have hg := ks i c δ' R' e1 q1 σ' P2 H2 v (q2.mono e4.ex) e3 (hT.step s0) e2
    refine fun pins s u I' r => thn (hg pins s u I' r) fun _ s' ⟨σ3, H3, I3, δ3, R3, P3, t1, t2, t3, t4⟩ => ⟨σ3, H3, I3, ?_⟩
    have s3 := s2.trans t4
    refine wSs_mono (t1 σ3 P3 H3 t2 t3 (hT.step (h4.trans s3))) ?_ ?_ ?_ ?_
    · exact fun _ _ z => liftS_wk (liftS_step s3 _ _ z)
    · exact fun _ _ z => liftV_step (h4.trans s3) _ _ z
    · exact fun _ _ z => liftS_wk (liftS_step (h4.trans s3) _ _ z)
    · exact fun _ _ z => liftS_wk (liftS_step s3 _ _ z)
  · have e : i = xs.length := by omega
    subst e
    exact .inl ⟨h2.stop R' P' H' (kn _ _ _ q1) q4.ex q3, δ', R', P', kd _ _ q1, q2, q3, h4.trans q4⟩
end
section
variable {X : Cx} {R : RL} {post : A → RL → Prop} {p : Addr} {U : Res → RL} {xs : List A} {m : Int}
theorem pav_replicate {K : PySem.W.Frag} {P : Hp} {vs : List V} {xs : List A} (h : PAv K P vs xs) : ∀ n, PAv K P (List.replicate n vs).flatten (List.replicate n xs).flatten
  | 0 => .nil
  | n + 1 => by rw [List.replicate_succ, List.replicate_succ, List.flatten_cons, List.flatten_cons]; exact pav_append h (pav_replicate h n)
/-- xs * m -/
theorem ba_rep (hs : Sel R p (.lst xs) U) (h0 : 0 ≤ m) (h1 : m < 2 ^ 62) (hl : xs.length * m.toNat ≤ sizeLine) (k : ∀ q, post (.ptr q) ((q, .lst (List.replicate m.toNat xs).flatten) :: R)) : BA X (binaryOp .Mult) (.ptr p) (.i m) R post :=
  BA.of op_rep fun P H x y ha hb hW Q q => by
    cases hb
    cases (show x = .ref p from ha)
    obtain ⟨vs, e1, e2⟩ := hW.get hs
    refine ⟨p, m, vs, rfl, rfl, e1, by omega, by omega, by rw [e2.length]; exact hl, fun r hr => q _ _ _ P _ (k r) rfl (hW.new hr ⟨_, upd_same, pav_replicate e2 _⟩) (stp_new hr)⟩
end
end AL

/-! AX: dicts whose keys are data (resource dX). -/
namespace AL
open PySem L2 PySem.Spec PyProof.Rows

/-! ### kinds of keys, told exactly -/
def boolIs (b : Bool) : Value → Bool
  | .bool c => c == b
  | _ => false
theorem boolIs_shape {b : Bool} {v : Value} (h : boolIs b v = true) : v = .bool b := by
  cases v <;> first | (cases h; done) | (rename_i c; have : c = b := by simpa [boolIs] using h
                                         rw [this])
def boolKind (prog : Program) (w : World) : KeyKind prog w Bool where
  is := boolIs
  hash := fun b => hashInt (if b then 1 else 0)
  inj := fun v a b ha hb => by
    have e1 := boolIs_shape ha
    have e2 := boolIs_shape hb
    rw [e1] at e2; cases e2; rfl
  byValue := fun k v h => by obtain rfl := boolIs_shape h; rfl
  pyHash := fun {A E s k v Q} hv h => by
    obtain rfl := boolIs_shape hv
    exact pyHash_leaf (k := .num (if k then 1 else 0)) (by cases k <;> rfl) h
  eqBool := fun {A E s a b u v Q} hu hv h => by
    obtain rfl := boolIs_shape hu
    obtain rfl := boolIs_shape hv
    have e : decide (a = b) = (a == b) := by cases a <;> cases b <;> rfl
    rw [e] at h
    exact SeqAt.EqAt.bool_bool a b _ _ _ _ h
  «strs» := fun k x t v h => by cases h
structure Emb (P : Program) (w : World) {κ : Type} [DecidableEq κ] (knd : KeyKind P w κ) (emb : κ → PyData) (c : Nat) : Prop where
  inn : ∀ {K : PySem.W.Frag} {H : Hp} {v : V} {u : Value} {k : κ}, Dp K H v (emb k) → RelV v u → knd.is k u = true
  out : ∀ {k : κ} {u : Value}, knd.is k u = true → ∃ v, RelV v u ∧ ∀ K H, Dp K H v (emb k)
  hash : ∀ k, knd.hash k = h0 (emb k)
  nk : ∀ a b, nk (emb a) = nk (emb b) → a = b
  onto : ∀ d, srt d = c → ∃ k, d = emb k
  srt : ∀ k, srt (emb k) = c
  c0 : c ≠ 0
theorem emb_int (P : Program) (w : World) : Emb P w (intKind P w) PyData.int 1 where
  inn := fun {K H v u k} h r => by
    cases h
    obtain ⟨t, rfl⟩ := r
    show Value.isInt k (.int k t) = true
    simp [Value.isInt]
  out := fun {k u} h => by
    obtain ⟨t, rfl⟩ := Value.isInt_shape (show Value.isInt k u = true from h)
    exact ⟨.int k, ⟨t, rfl⟩, fun _ _ => .int k⟩
  hash := fun k => by rw [h0]; rfl
  nk := fun a b h => by simp only [nk] at h; injection h
  onto := fun d h => by
    cases d with
    | int i => exact ⟨i, rfl⟩
    | none => simp [srt] at h
    | bool b => simp [srt] at h
    | str x => simp [srt] at h
    | list x => simp [srt] at h
    | dict x => simp [srt] at h
    | tuple x => exfalso; rw [srt] at h; split at h <;> omega
  srt := fun k => rfl
  c0 := by decide
theorem emb_bool (P : Program) (w : World) : Emb P w (boolKind P w) PyData.bool 2 where
  inn := fun {K H v u k} h r => by
    cases h
    obtain rfl : u = .bool k := r
    show boolIs k (.bool k) = true
    simp [boolIs]
  out := fun {k u} h => by
    obtain rfl := boolIs_shape h
    exact ⟨.bl k, rfl, fun _ _ => .bl k⟩
  hash := fun k => by rw [h0]; rfl
  nk := fun a b h => by simp only [nk] at h; injection h with h; cases a <;> cases b <;> simp at h ⊢
  onto := fun d h => by
    cases d with
    | bool i => exact ⟨i, rfl⟩
    | none => simp [srt] at h
    | int b => simp [srt] at h
    | str x => simp [srt] at h
    | list x => simp [srt] at h
    | dict x => simp [srt] at h
    | tuple x => exfalso; rw [srt] at h; split at h <;> omega
  srt := fun k => rfl
  c0 := by decide

/-! ### looking up, putting -/
def lkX {α : Type} (kvs : List (PyData × α)) (k : PyData) : Option α := (kvs.find? fun kv => decide (nk kv.1 = nk k)).map (·.2)
def putX {α : Type} (kvs : List (PyData × α)) (k : PyData) (v : α) : List (PyData × α) :=
  if (kvs.any fun kv => decide (nk kv.1 = nk k)) = true then kvs.map (fun kv => if nk kv.1 = nk k then (kv.1, v) else kv) else kvs ++ [(k, v)]
/-- the key is of the sort of the keys that stand -/
def FitK {α : Type} (kvs : List (PyData × α)) (k : PyData) : Prop := srt k ≠ 0 ∧ ∀ kv ∈ kvs, srt kv.1 = srt k
theorem putX_len {α : Type} (kvs : List (PyData × α)) (k : PyData) (v : α) : (putX kvs k v).length ≤ kvs.length + 1 := by
  unfold putX; split <;> simp
theorem lkX_any {α : Type} (k : PyData) : ∀ kvs : List (PyData × α), (kvs.any fun kv => decide (nk kv.1 = nk k)) = (lkX kvs k).isSome
  | [] => rfl
  | p :: r => by
    rw [List.any_cons, lkX_any k r]
    by_cases e : nk p.1 = nk k <;> simp [lkX, List.find?_cons, e]
section
variable {κ : Type} [DecidableEq κ] {P : Program} {w : World} {knd : KeyKind P w κ} {emb : κ → PyData} {c : Nat} {K : PySem.W.Frag} {H : Hp}
def KR (emb : κ → PyData) (K : PySem.W.Frag) (H : Hp) : List (κ × Value) → List (PyData × A) → Prop := Paired fun p q => q.1 = emb p.1 ∧ ∃ w, RelV w p.2 ∧ Av K H w q.2
theorem Emb.nk_iff (E : Emb P w knd emb c) (a b : κ) : AL.nk (emb a) = AL.nk (emb b) ↔ a = b := ⟨E.nk a b, fun h => by rw [h]⟩
theorem KR.lk (E : Emb P w knd emb c) {k : κ} : ∀ {ks : List (κ × Value)} {kvs : List (PyData × A)}, KR emb K H ks kvs → (∀ a, lkX kvs (emb k) = some a → ∃ v u, valueAt ks k = some u ∧ RelV v u ∧ Av K H v a) ∧ (lkX kvs (emb k) = none → valueAt ks k = none)
  | _, _, .nil => ⟨fun _ e => (nomatch e), fun _ => rfl⟩
  | _, _, .cons (a := p) (b := q) (l₁ := l1) (l₂ := l2) h t => by
    obtain ⟨h1, v, h2, h3⟩ := h
    have ih := KR.lk E (k := k) t
    by_cases e : p.1 = k
    · have e2 : nk q.1 = nk (emb k) := by rw [h1, e]
      have a1 : valueAt (p :: l1) k = some p.2 := by simp [valueAt, List.find?_cons, e]
      have a2 : lkX (q :: l2) (emb k) = some q.2 := by simp [lkX, List.find?_cons, e2]
      exact ⟨fun a ea => by rw [a2] at ea; cases ea; exact ⟨v, p.2, a1, h2, h3⟩, fun ea => by rw [a2] at ea; cases ea⟩
    · have e2 : ¬ nk q.1 = nk (emb k) := fun z => e (E.nk _ _ (by rw [← h1]; exact z))
      have a1 : valueAt (p :: l1) k = valueAt l1 k := by simp [valueAt, List.find?_cons, e]
      have a2 : lkX (q :: l2) (emb k) = lkX l2 (emb k) := by simp [lkX, List.find?_cons, e2]
      rw [a1, a2]; exact ih
theorem KR.any (E : Emb P w knd emb c) {k : κ} : ∀ {ks : List (κ × Value)} {kvs : List (PyData × A)}, KR emb K H ks kvs → (kvs.any fun kv => decide (nk kv.1 = nk (emb k))) = ks.any fun kv => decide (kv.1 = k)
  | _, _, .nil => rfl
  | _, _, .cons (a := p) (b := q) h t => by
    rw [List.any_cons, List.any_cons, KR.any E t, h.1]
    congr 1
    exact decide_eq_decide.mpr (E.nk_iff _ _)
theorem KR.map (E : Emb P w knd emb c) {k : κ} {v : V} {u : Value} {a : A} (r : RelV v u) (ha : Av K H v a) : ∀ {ks : List (κ × Value)} {kvs : List (PyData × A)}, KR emb K H ks kvs → KR emb K H (ks.map fun kv => if kv.1 = k then (kv.1, u) else kv) (kvs.map fun kv => if nk kv.1 = nk (emb k) then (kv.1, a) else kv)
  | _, _, .nil => .nil
  | _, _, .cons (a := p) (b := q) h t => by
    refine .cons ?_ (KR.map E r ha t)
    by_cases e : p.1 = k
    · have e2 : nk q.1 = nk (emb k) := by rw [h.1, e]
      show (if AL.nk q.1 = AL.nk (emb k) then (q.1, a) else q).1 = emb (if p.1 = k then (p.1, u) else p).1 ∧ ∃ w, RelV w (if p.1 = k then (p.1, u) else p).2 ∧ Av K H w (if AL.nk q.1 = AL.nk (emb k) then (q.1, a) else q).2
      rw [if_pos e, if_pos e2]; exact ⟨h.1, v, r, ha⟩
    · have e2 : ¬ nk q.1 = nk (emb k) := fun z => e (E.nk _ _ (by rw [← h.1]; exact z))
      show (if AL.nk q.1 = AL.nk (emb k) then (q.1, a) else q).1 = emb (if p.1 = k then (p.1, u) else p).1 ∧ ∃ w, RelV w (if p.1 = k then (p.1, u) else p).2 ∧ Av K H w (if AL.nk q.1 = AL.nk (emb k) then (q.1, a) else q).2
      rw [if_neg e, if_neg e2]; exact h
theorem paired_append {α β : Type} {F : α → β → Prop} : ∀ {a c : List α} {b d : List β}, Paired F a b → Paired F c d → Paired F (a ++ c) (b ++ d)
  | _, _, _, _, .nil, h => h
  | _, _, _, _, .cons q t, h => .cons q (paired_append t h)
theorem KR.put (E : Emb P w knd emb c) {k : κ} {v : V} {u : Value} {a : A} (r : RelV v u) (ha : Av K H v a) {ks : List (κ × Value)} {kvs : List (PyData × A)} (h : KR emb K H ks kvs) : KR emb K H (stored ks k u) (putX kvs (emb k) a) := by
  unfold stored putX
  rw [KR.any E h]
  split
  · exact KR.map E r ha h
  · exact paired_append h (.cons ⟨rfl, v, r, ha⟩ .nil)
theorem Emb.opens (E : Emb P w knd emb c) : ∀ {es : List DictEntry} {kvs : List (PyData × A)}, Paired (XE K H) es kvs → (∀ kv ∈ kvs, AL.srt kv.1 = c) → ∃ ks : List (κ × Value), Pairs knd es ks ∧ (∀ e ∈ es, ∃ k, knd.is k e.key = true ∧ e.hash = knd.hash k) ∧ KR emb K H ks kvs
  | _, _, .nil, _ => ⟨[], .nil, fun e he => absurd he (by simp), .nil⟩
  | _, _, .cons (a := e) (b := q) h t, hs => by
    obtain ⟨ks, h1, h2, h3⟩ := E.opens t fun kv hk => hs kv (List.mem_cons_of_mem _ hk)
    obtain ⟨g1, ⟨v, g2, g3⟩, x, g4, g5⟩ := h
    obtain ⟨k, ek⟩ := E.onto q.1 (hs q List.mem_cons_self)
    have hi : knd.is k e.key = true := E.inn (by rw [← ek]; exact g3) g2
    refine ⟨(k, e.val) :: ks, .cons hi rfl h1, fun y hy => ?_, .cons ⟨ek, x, g4, g5⟩ h3⟩
    rcases List.mem_cons.mp hy with rfl | hy
    · exact ⟨k, hi, by rw [g1, ek, E.hash]⟩
    · exact h2 y hy
theorem KR.keys {ks : List (κ × Value)} {kvs : List (PyData × A)} (h : KR emb K H ks kvs) : kvs.map (·.1) = ks.map fun x => emb x.1 := by
  induction h with
  | nil => rfl
  | cons h _ ih => rw [List.map_cons, List.map_cons, ih, h.1]
theorem Emb.nodup (E : Emb P w knd emb c) {ks : List (κ × Value)} {kvs : List (PyData × A)} (h : KR emb K H ks kvs) (nd : (kvs.map fun x => AL.nk x.1).Nodup) : (ks.map (·.1)).Nodup := by
  have e : (kvs.map fun x => AL.nk x.1) = (ks.map (·.1)).map fun k => AL.nk (emb k) := by
    have := congrArg (List.map AL.nk) h.keys
    rw [List.map_map, List.map_map] at this
    rw [List.map_map]
    exact this
  rw [e] at nd
  exact (List.pairwise_map.mp nd).imp fun h z => h (by rw [z])
theorem Emb.nodup' (E : Emb P w knd emb c) {ks : List (κ × Value)} {kvs : List (PyData × A)} (h : KR emb K H ks kvs) (nd : (ks.map (·.1)).Nodup) : (kvs.map fun x => AL.nk x.1).Nodup := by
  have e : (kvs.map fun x => AL.nk x.1) = (ks.map (·.1)).map fun k => AL.nk (emb k) := by
    have := congrArg (List.map AL.nk) h.keys
    rw [List.map_map, List.map_map] at this
    rw [List.map_map]
    exact this
  rw [e]
  exact List.pairwise_map.mpr (nd.imp fun h z => h (E.nk _ _ z))
theorem Emb.closes (E : Emb P w knd emb c) : ∀ {es : List DictEntry} {ks : List (κ × Value)} {kvs : List (PyData × A)}, Pairs knd es ks → (∀ e ∈ es, ∃ k, knd.is k e.key = true ∧ e.hash = knd.hash k) → KR emb K H ks kvs → Paired (XE K H) es kvs
  | _, _, _, .nil, _, .nil => .nil
  | _, _, _, .cons (e := e) (kv := p) h1 h2 t, hh, .cons (b := q) r rt => by
    refine .cons ?_ (E.closes t (fun e he => hh e (List.mem_cons_of_mem _ he)) rt)
    obtain ⟨k', g1, g2⟩ := hh e List.mem_cons_self
    have ek := knd.inj _ _ _ g1 h1
    subst ek
    obtain ⟨v, o1, o2⟩ := E.out h1
    obtain ⟨r1, x, r2, r3⟩ := r
    exact ⟨by rw [g2, E.hash, r1], ⟨v, o1, by rw [r1]; exact o2 _ _⟩, x, by rw [h2]; exact r2, r3⟩
theorem KR.srt (E : Emb P w knd emb c) {ks : List (κ × Value)} {kvs : List (PyData × A)} (h : KR emb K H ks kvs) : ∀ kv ∈ kvs, AL.srt kv.1 = c := by
  induction h with
  | nil => intro kv hk; cases hk
  | cons h _ ih =>
    intro kv hk
    rcases List.mem_cons.mp hk with rfl | hk
    · rw [h.1]; exact E.srt _
    · exact ih kv hk
end
/-! ### tuples as keys -/
section
variable {P : Program} {w : World} {K : PySem.W.Frag} {H : Hp}
mutual
theorem h0_eq : ∀ d : PyData, keyb d = true → (nk d).hash w = h0 d
  | .none, _ => rfl
  | .bool b, _ => rfl
  | .int i, _ => rfl
  | .str s, h => by simp [keyb] at h
  | .list xs, h => by simp [keyb] at h
  | .dict xs, h => by simp [keyb] at h
  | .tuple xs, h => by
    rw [keyb] at h
    rw [nk, NestedKey.hash, h0, h0L_eq xs h]
theorem h0L_eq : ∀ ds : List PyData, keybL ds = true → NestedKey.hashes w (nkL ds) = h0L ds
  | [], _ => rfl
  | d :: ds, h => by
    rw [keybL, Bool.and_eq_true] at h
    rw [nkL, NestedKey.hashes, h0L, h0_eq d h.1, h0L_eq ds h.2]
end
theorem srt3 {d : PyData} (h : srt d = 3) : ∃ xs, d = .tuple xs ∧ keybL xs = true ∧ (nk d).depth ≤ 8 := by
  cases d with
  | tuple xs =>
    rw [srt] at h
    split at h
    · rename_i q
      rw [Bool.and_eq_true, decide_eq_true_eq] at q
      exact ⟨xs, rfl, q.1, q.2⟩
    · omega
  | int i => simp [srt] at h
  | none => simp [srt] at h
  | bool b => simp [srt] at h
  | str x => simp [srt] at h
  | list x => simp [srt] at h
  | dict x => simp [srt] at h
def TR (K : PySem.W.Frag) (H : Hp) : List (NestedKey × Addr × Value) → List (PyData × A) → Prop := Paired fun x q => x.1 = nk q.1 ∧ Dp K H (.ref x.2.1) q.1 ∧ srt q.1 = 3 ∧ ∃ w, RelV w x.2.2 ∧ Av K H w q.2
theorem tr_opens : ∀ {es : List DictEntry} {kvs : List (PyData × A)}, Paired (XE K H) es kvs → (∀ kv ∈ kvs, srt kv.1 = 3) → ∃ xs : List (NestedKey × Addr × Value), es = xs.map (entryOfKey (nestedKind P w)) ∧ TR K H xs kvs
  | _, _, .nil, _ => ⟨[], rfl, .nil⟩
  | _, _, .cons (a := e) (b := q) h t, hs => by
    obtain ⟨xs, h1, h2⟩ := tr_opens t fun kv hk => hs kv (List.mem_cons_of_mem _ hk)
    obtain ⟨g1, ⟨v, g2, g3⟩, x, g4, g5⟩ := h
    have hq := hs q List.mem_cons_self
    obtain ⟨ds, ed, hb, hd⟩ := srt3 hq
    rw [ed] at g3
    cases g3 with
    | tup q1 q2 =>
      rename_i a vs
      have ek : e.key = .ref a := g2
      refine ⟨(nk q.1, a, e.val) :: xs, ?_, .cons ⟨rfl, by rw [ed]; exact .tup q1 q2, hq, x, g4, g5⟩ h2⟩
      rw [List.map_cons, ← h1]
      have eh : (nk q.1).hash w = h0 q.1 := by rw [ed]; exact h0_eq _ (by rw [keyb]; exact hb)
      show e :: _ = (⟨(nk q.1).hash w, .ref a, e.val⟩ : DictEntry) :: _
      rw [eh, ← g1, ← ek]
theorem tr_closes : ∀ {xs : List (NestedKey × Addr × Value)} {kvs : List (PyData × A)}, TR K H xs kvs → Paired (XE K H) (xs.map (entryOfKey (nestedKind P w))) kvs
  | _, _, .nil => .nil
  | _, _, .cons (a := x) (b := q) h t => by
    refine .cons ?_ (tr_closes t)
    obtain ⟨g1, g2, g3, y, g4, g5⟩ := h
    obtain ⟨ds, ed, hb, hd⟩ := srt3 g3
    refine ⟨?_, ⟨.ref x.2.1, rfl, g2⟩, y, g4, g5⟩
    show x.1.hash w = h0 q.1
    rw [g1, ed]
    exact h0_eq _ (by rw [keyb]; exact hb)
theorem TR.lk {k : PyData} : ∀ {xs : List (NestedKey × Addr × Value)} {kvs : List (PyData × A)}, TR K H xs kvs → (∀ a, lkX kvs k = some a → ∃ v p, atKey xs (nk k) = some p ∧ RelV v p.2 ∧ Av K H v a) ∧ (lkX kvs k = none → atKey xs (nk k) = none)
  | _, _, .nil => ⟨fun _ e => (nomatch e), fun _ => rfl⟩
  | _, _, .cons (a := p) (b := q) (l₁ := l1) (l₂ := l2) h t => by
    obtain ⟨h1, _, _, v, h2, h3⟩ := h
    have ih := TR.lk (k := k) t
    by_cases e : p.1 = nk k
    · have e2 : nk q.1 = nk k := by rw [← h1, e]
      have a1 : atKey (p :: l1) (nk k) = some p.2 := by simp [atKey, List.find?_cons, e]
      have a2 : lkX (q :: l2) k = some q.2 := by simp [lkX, List.find?_cons, e2]
      exact ⟨fun a ea => by rw [a2] at ea; cases ea; exact ⟨v, p.2, a1, h2, h3⟩, fun ea => by rw [a2] at ea; cases ea⟩
    · have e2 : ¬ nk q.1 = nk k := fun z => e (by rw [h1]; exact z)
      have a1 : atKey (p :: l1) (nk k) = atKey l1 (nk k) := by simp [atKey, List.find?_cons, e]
      have a2 : lkX (q :: l2) k = lkX l2 k := by simp [lkX, List.find?_cons, e2]
      rw [a1, a2]; exact ih
theorem TR.map {k : PyData} {v : V} {u : Value} {a : A} (r : RelV v u) (ha : Av K H v a) : ∀ {xs : List (NestedKey × Addr × Value)} {kvs : List (PyData × A)}, TR K H xs kvs → TR K H (xs.map (putAt (nk k) u)) (kvs.map fun kv => if nk kv.1 = nk k then (kv.1, a) else kv)
  | _, _, .nil => .nil
  | _, _, .cons (a := p) (b := q) h t => by
    refine .cons ?_ (TR.map r ha t)
    show (if p.1 = nk k then (p.1, p.2.1, u) else p).1 = nk (if nk q.1 = nk k then (q.1, a) else q).1 ∧ Dp K H (.ref (if p.1 = nk k then (p.1, p.2.1, u) else p).2.1) (if nk q.1 = nk k then (q.1, a) else q).1 ∧ srt (if nk q.1 = nk k then (q.1, a) else q).1 = 3 ∧ ∃ w, RelV w (if p.1 = nk k then (p.1, p.2.1, u) else p).2.2 ∧ Av K H w (if nk q.1 = nk k then (q.1, a) else q).2
    by_cases e : p.1 = nk k
    · have e2 : nk q.1 = nk k := by rw [← h.1, e]
      rw [if_pos e, if_pos e2]; exact ⟨h.1, h.2.1, h.2.2.1, v, r, ha⟩
    · have e2 : ¬ nk q.1 = nk k := fun z => e (by rw [h.1]; exact z)
      rw [if_neg e, if_neg e2]; exact h
theorem TR.put {k : PyData} {v : V} {u : Value} {a : A} {b : Addr} (r : RelV v u) (ha : Av K H v a) (hk : Dp K H (.ref b) k) (h3 : srt k = 3) {xs : List (NestedKey × Addr × Value)} {kvs : List (PyData × A)} (h : TR K H xs kvs) : TR K H (storedH xs (nk k) b u) (putX kvs k a) := by
  have l := TR.lk (k := k) h
  unfold putX
  rw [lkX_any]
  cases e : lkX kvs k with
  | some c =>
    obtain ⟨v', p, e1, _, _⟩ := l.1 c e
    rw [storedH_old e1, if_pos (show (some c).isSome = true from rfl)]
    exact TR.map r ha h
  | none =>
    rw [storedH_new (l.2 e), if_neg (show ¬ (none : Option A).isSome = true from Bool.false_ne_true)]
    exact paired_append h (.cons ⟨rfl, hk, h3, v, r, ha⟩ .nil)
theorem TR.nd {xs : List (NestedKey × Addr × Value)} {kvs : List (PyData × A)} (h : TR K H xs kvs) : (kvs.map fun x => nk x.1) = xs.map (·.1) := by
  induction h with
  | nil => rfl
  | cons h _ ih => rw [List.map_cons, List.map_cons, ih, h.1]
theorem TR.srt {xs : List (NestedKey × Addr × Value)} {kvs : List (PyData × A)} (h : TR K H xs kvs) : ∀ kv ∈ kvs, AL.srt kv.1 = 3 := by
  induction h with
  | nil => intro kv hk; cases hk
  | cons h _ ih =>
    intro kv hk
    rcases List.mem_cons.mp hk with rfl | hk
    · exact h.2.2.1
    · exact ih kv hk
theorem TR.mem {xs : List (NestedKey × Addr × Value)} {kvs : List (PyData × A)} (h : TR K H xs kvs) : ∀ x ∈ xs, ∃ d, x.1 = nk d ∧ Dp K H (.ref x.2.1) d ∧ AL.srt d = 3 := by
  induction h with
  | nil => intro kv hk; cases hk
  | cons h _ ih =>
    intro kv hk
    rcases List.mem_cons.mp hk with rfl | hk
    · exact ⟨_, h.1, h.2.1, h.2.2.1⟩
    · exact ih kv hk
end
section
variable {X : Cx} {pins : List (Addr × Obj)} {σ : L2.St} {H : Hp} {s : Shared} {a : Addr} {es : List DictEntry} {kvs : List (PyData × A)} {k : PyData} {A0 : Around} {E : Value → Shared → Prop}
mutual
theorem nest_of (I : Inv X pins σ H s) : ∀ (d : PyData) (v : V) (u : Value), Dp X.K H v d → RelV v u → keyb d = true → NestedIs s.heap (nk d) u
  | .none, _, _, h, r, _ => by cases h; cases r; exact .none
  | .bool b, _, _, h, r, _ => by cases h; cases r; exact .bool rfl
  | .int i, _, _, h, r, _ => by cases h; obtain ⟨t, rfl⟩ := r; exact .int i t
  | .str x, _, _, h, r, k => by simp [keyb] at k
  | .list xs, _, _, h, r, k => by simp [keyb] at k
  | .dict xs, _, _, h, r, k => by simp [keyb] at k
  | .tuple xs, _, _, h, r, k => by
    rw [keyb] at k
    cases h with
    | tup h1 h2 =>
      cases r
      obtain ⟨its, r2, ⟨o, o1, o2, n, o3⟩, hz⟩ := I.tuple h1
      rw [nk]
      exact .tup o1 o2 o3 (by simpa using nestL_of I xs _ _ h2 r2 k)
theorem nestL_of (I : Inv X pins σ H s) : ∀ (ds : List PyData) (vs : List V) (us : List Value), DpAll X.K H vs ds → Vals vs us → keybL ds = true → NestedAll s.heap (nkL ds) us
  | [], _, _, h, r, _ => by cases h; cases r; exact .nil
  | d :: ds, _, _, h, r, k => by
    rw [keybL, Bool.and_eq_true] at k
    cases h with
    | cons h1 h2 =>
      cases r with
      | cons r1 r2 => exact .cons (nest_of I d _ _ h1 r1 k.1) (nestL_of I ds _ _ h2 r2 k.2)
end
theorem nest_key (I : Inv X pins σ H s) {d : PyData} {b : Addr} (h : Dp X.K H (.ref b) d) (h3 : srt d = 3) : (nestedKind X.prog X.w).is s.heap (nk d) b := by
  obtain ⟨xs, rfl, hb, hd⟩ := srt3 h3
  exact ⟨nest_of I _ _ _ h rfl (by rw [keyb]; exact hb), hd⟩
theorem xd_raw (I : Inv X pins σ H s) (e : H a = some (xdict a es)) : ∃ o arr ep, s.heap.get? a = some o ∧ o.ExactDict ∧ o.data = .dict arr ep ∧ arr.toList = es := (I.hok a _ e).1
theorem xd_type (I : Inv X pins σ H s) (e : H a = some (xdict a es)) : s.TypeIs (.ref a) "dict" := by
  obtain ⟨o, arr, ep, h1, h2, _⟩ := xd_raw I e
  exact ⟨o, h1, h2.1⟩
theorem xd_of {P : Hp} {κ : Type} [DecidableEq κ] {knd : KeyKind X.prog X.w κ} {emb : κ → PyData} {c : Nat} (E : Emb X.prog X.w knd emb c) (I : Inv X pins σ H s) (e : H a = some (xdict a es)) (x : XDs X.K P es kvs) (hs : ∀ kv ∈ kvs, AL.srt kv.1 = c) :
    ∃ ks, s.heap.DictOf knd a ks ∧ KR emb X.K P ks kvs := by
  obtain ⟨o, arr, ep, h1, h2, h3, h4⟩ := xd_raw I e
  obtain ⟨ks, g1, g2, g3⟩ := E.opens x.rel hs
  exact ⟨ks, ⟨o, arr, ep, h1, h2, h3, fun y hy => g2 y (by rw [← h4]; exact Array.mem_toList_iff.mpr hy), by rw [h4]; exact g1, E.nodup g3 x.nd⟩, g3⟩
theorem xd_ofH {P : Hp} (I : Inv X pins σ H s) (sm : Same P H) (e : H a = some (xdict a es)) (x : XDs X.K P es kvs) (hs : ∀ kv ∈ kvs, srt kv.1 = 3) : ∃ xs, s.heap.DictOfH (nestedKind X.prog X.w) a xs ∧ TR X.K P xs kvs := by
  obtain ⟨o, arr, ep, h1, h2, h3, h4⟩ := xd_raw I e
  obtain ⟨xs, g1, g2⟩ := tr_opens (P := X.prog) (w := X.w) x.rel hs
  refine ⟨xs, ⟨o, arr, ep, h1, h2, h3, by rw [h4]; exact g1, fun y hy => ?_, by rw [← g2.nd]; exact x.nd⟩, g2⟩
  obtain ⟨d, d1, d2, d3⟩ := g2.mem y hy
  rw [d1]; exact nest_key I (dp_mono sm d2) d3
end
/-! ### operations -/
theorem srt_cases (d : PyData) : srt d = 0 ∨ srt d = 1 ∨ srt d = 2 ∨ srt d = 3 := by
  cases d with
  | tuple xs => rw [srt]; split <;> simp
  | int i => simp [srt]
  | none => simp [srt]
  | bool b => simp [srt]
  | str x => simp [srt]
  | list x => simp [srt]
  | dict x => simp [srt]
theorem dp_ref {K : PySem.W.Frag} {H : Hp} {v : V} {d : PyData} (h : Dp K H v d) (h3 : srt d = 3) : ∃ b, v = .ref b := by
  obtain ⟨xs, rfl, _, _⟩ := srt3 h3
  cases h
  exact ⟨_, rfl⟩
section
variable {X : Cx} {pins : List (Addr × Obj)} {σ : L2.St} {H : Hp} {s : Shared} {a : Addr} {es : List DictEntry} {kvs : List (PyData × A)} {k : PyData} {A0 : Around} {E : Value → Shared → Prop} {v : V} {u : Value}
theorem isSome_of {α β : Type} {o : Option α} {o' : Option β} (h1 : ∀ a, o = some a → ∃ b, o' = some b) (h2 : o = none → o' = none) : o'.isSome = o.isSome := by
  cases e : o with
  | none => rw [h2 e]; rfl
  | some a => obtain ⟨b, q⟩ := h1 a e; rw [q]; rfl
theorem KR.isSome {κ : Type} [DecidableEq κ] {P : Program} {w : World} {knd : KeyKind P w κ} {emb : κ → PyData} {c : Nat} {K : PySem.W.Frag} (Em : Emb P w knd emb c) {z : κ} {ks : List (κ × Value)} (r : KR emb K H ks kvs) : (valueAt ks z).isSome = (lkX kvs (emb z)).isSome :=
  isSome_of (fun a ea => by obtain ⟨v, u, q, _⟩ := (KR.lk Em (k := z) r).1 a ea; exact ⟨u, q⟩) (KR.lk Em (k := z) r).2
theorem x_in {P : Hp} {Q : Value → Shared → Prop} (hu : A0.units + 9 < cLine) (I : Inv X pins σ H s) (e : H a = some (xdict a es)) (hd : (a == sysModules) = false) (sm : Same P H) (x : XDs X.K P es kvs) (hf : FitK kvs k) (hv : Dp X.K P v k) (ru : RelV v u) (h : ∀ s', Inv X pins σ H s' → Q (.bool (lkX kvs k).isSome) s') :
    wpAny (model X.prog X.w) A0 (compareOp .In u (.ref a)) Q E s := by
  rcases srt_cases k with q | q | q | q
  · exact absurd q hf.1
  · obtain ⟨z, rfl⟩ := (emb_int X.prog X.w).onto k q
    obtain ⟨ks, dd, r⟩ := xd_of (emb_int X.prog X.w) I e x fun kv hk => (hf.2 kv hk).trans q
    refine wpAny_in_of ((emb_int X.prog X.w).inn hv ru) hd dd.mapOf ?_
    rw [KR.isSome (emb_int X.prog X.w) r]
    exact h _ (I.tok _)
  · obtain ⟨z, rfl⟩ := (emb_bool X.prog X.w).onto k q
    obtain ⟨ks, dd, r⟩ := xd_of (emb_bool X.prog X.w) I e x fun kv hk => (hf.2 kv hk).trans q
    refine wpAny_in_of ((emb_bool X.prog X.w).inn hv ru) hd dd.mapOf ?_
    rw [KR.isSome (emb_bool X.prog X.w) r]
    exact h _ (I.tok _)
  · obtain ⟨b, rfl⟩ := dp_ref hv q
    cases (show u = Value.ref b from ru)
    obtain ⟨xs, dd, r⟩ := xd_ofH I sm e x fun kv hk => (hf.2 kv hk).trans q
    refine wpAny_in_heap (knd := nestedKind X.prog X.w) (by show A0.units + 1 + 8 < cLine; omega) (nest_key I (dp_mono sm hv) q) hd dd ?_
    rw [isSome_of (o := lkX kvs k) (fun a ea => by obtain ⟨v, p, q, _⟩ := (TR.lk (k := k) r).1 a ea; exact ⟨p, q⟩) (TR.lk (k := k) r).2]
    exact h _ (I.tok _)
theorem x_notIn {P : Hp} {Q : Value → Shared → Prop} (hu : A0.units + 9 < cLine) (I : Inv X pins σ H s) (e : H a = some (xdict a es)) (hd : (a == sysModules) = false) (sm : Same P H) (x : XDs X.K P es kvs) (hf : FitK kvs k) (hv : Dp X.K P v k) (ru : RelV v u) (h : ∀ s', Inv X pins σ H s' → Q (.bool (!(lkX kvs k).isSome)) s') :
    wpAny (model X.prog X.w) A0 (compareOp .NotIn u (.ref a)) Q E s := by
  rcases srt_cases k with q | q | q | q
  · exact absurd q hf.1
  · obtain ⟨z, rfl⟩ := (emb_int X.prog X.w).onto k q
    obtain ⟨ks, dd, r⟩ := xd_of (emb_int X.prog X.w) I e x fun kv hk => (hf.2 kv hk).trans q
    refine wpAny_notIn_of ((emb_int X.prog X.w).inn hv ru) hd dd.mapOf ?_
    rw [KR.isSome (emb_int X.prog X.w) r]
    exact h _ (I.tok _)
  · obtain ⟨z, rfl⟩ := (emb_bool X.prog X.w).onto k q
    obtain ⟨ks, dd, r⟩ := xd_of (emb_bool X.prog X.w) I e x fun kv hk => (hf.2 kv hk).trans q
    refine wpAny_notIn_of ((emb_bool X.prog X.w).inn hv ru) hd dd.mapOf ?_
    rw [KR.isSome (emb_bool X.prog X.w) r]
    exact h _ (I.tok _)
  · obtain ⟨b, rfl⟩ := dp_ref hv q
    cases (show u = Value.ref b from ru)
    obtain ⟨xs, dd, r⟩ := xd_ofH I sm e x fun kv hk => (hf.2 kv hk).trans q
    refine wpAny_notIn_heap (knd := nestedKind X.prog X.w) (by show A0.units + 1 + 8 < cLine; omega) (nest_key I (dp_mono sm hv) q) hd dd ?_
    rw [isSome_of (o := lkX kvs k) (fun a ea => by obtain ⟨v, p, q, _⟩ := (TR.lk (k := k) r).1 a ea; exact ⟨p, q⟩) (TR.lk (k := k) r).2]
    exact h _ (I.tok _)
theorem x_getItem {P : Hp} {c : A} {Q : Value → Shared → Prop} (hu : A0.units + 9 < cLine) (I : Inv X pins σ H s) (e : H a = some (xdict a es)) (sm : Same P H) (x : XDs X.K P es kvs) (hf : FitK kvs k) (hv : Dp X.K P v k) (ru : RelV v u) (hl : lkX kvs k = some c) (h : ∀ y w' s', Inv X pins σ H s' → RelV y w' → Av X.K P y c → Q w' s') :
    wpAny (model X.prog X.w) A0 (getItem (.ref a) u) Q E s := by
  rcases srt_cases k with q | q | q | q
  · exact absurd q hf.1
  · obtain ⟨z, rfl⟩ := (emb_int X.prog X.w).onto k q
    obtain ⟨ks, dd, r⟩ := xd_of (emb_int X.prog X.w) I e x fun kv hk => (hf.2 kv hk).trans q
    obtain ⟨y, w', g1, g2, g3⟩ := (KR.lk (emb_int X.prog X.w) (k := z) r).1 c hl
    exact wpAny_getItem_of ((emb_int X.prog X.w).inn hv ru) dd.mapOf g1 (h y w' _ (I.tok _) g2 g3)
  · obtain ⟨z, rfl⟩ := (emb_bool X.prog X.w).onto k q
    obtain ⟨ks, dd, r⟩ := xd_of (emb_bool X.prog X.w) I e x fun kv hk => (hf.2 kv hk).trans q
    obtain ⟨y, w', g1, g2, g3⟩ := (KR.lk (emb_bool X.prog X.w) (k := z) r).1 c hl
    exact wpAny_getItem_of ((emb_bool X.prog X.w).inn hv ru) dd.mapOf g1 (h y w' _ (I.tok _) g2 g3)
  · obtain ⟨b, rfl⟩ := dp_ref hv q
    cases (show u = Value.ref b from ru)
    obtain ⟨xs, dd, r⟩ := xd_ofH I sm e x fun kv hk => (hf.2 kv hk).trans q
    obtain ⟨y, p, g1, g2, g3⟩ := (TR.lk (k := k) r).1 c hl
    exact wpAny_getItem_heap (knd := nestedKind X.prog X.w) (by show A0.units + 1 + 8 < cLine; omega) (nest_key I (dp_mono sm hv) q) dd g1 (h y p.2 _ (I.tok _) g2 g3)
theorem av_getD {K : PySem.W.Frag} {z : V} {d : A} {r : Value} {o : Option A} {o' : Option Value} (h1 : ∀ a, o = some a → ∃ v u, o' = some u ∧ RelV v u ∧ Av K H v a) (h2 : o = none → o' = none) (rz : RelV z r) (hz : Av K H z d) : ∃ y, RelV y (o'.getD r) ∧ Av K H y (o.getD d) := by
  cases e : o with
  | none => rw [h2 e]; exact ⟨z, rz, hz⟩
  | some a => obtain ⟨v, u, q, r1, r2⟩ := h1 a e; rw [q]; exact ⟨v, r1, r2⟩
theorem x_get2 {P : Hp} {z : V} {d : A} {r : Value} {Q : Value → Shared → Prop} (hu : A0.units + 9 < cLine) (I : Inv X pins σ H s) (e : H a = some (xdict a es)) (hd : (a == sysModules) = false) (sm : Same P H) (x : XDs X.K P es kvs) (hf : FitK kvs k) (hv : Dp X.K P v k) (ru : RelV v u) (rz : RelV z r) (hz : Av X.K P z d) (h : ∀ y w' s', Inv X pins σ H s' → RelV y w' → Av X.K P y ((lkX kvs k).getD d) → Q w' s') :
    wpAny (model X.prog X.w) A0 (call (.builtin "dict.get") [.ref a, u, r]) Q E s := by
  have ty := xd_type I e
  rcases srt_cases k with q | q | q | q
  · exact absurd q hf.1
  · obtain ⟨i, rfl⟩ := (emb_int X.prog X.w).onto k q
    obtain ⟨ks, dd, rr⟩ := xd_of (emb_int X.prog X.w) I e x fun kv hk => (hf.2 kv hk).trans q
    obtain ⟨y, g2, g3⟩ := av_getD (o' := valueAt ks i) (fun a ea => by obtain ⟨v, u, q1, q2, q3⟩ := (KR.lk (emb_int X.prog X.w) (k := i) rr).1 a ea; exact ⟨v, u, q1, q2, q3⟩) (KR.lk (emb_int X.prog X.w) (k := i) rr).2 rz hz
    exact call_meetsIn PySem.F.slot_dict_get ty PySem.F.entry_dict_get (PySem.F.args_dict_get_3 _ _ _) (meets_dict_get_default (intKind X.prog X.w) a ((emb_int X.prog X.w).inn hv ru) hd r) ⟨_, dd.mapOf, h y _ _ (I.tok _) g2 g3⟩
  · obtain ⟨i, rfl⟩ := (emb_bool X.prog X.w).onto k q
    obtain ⟨ks, dd, rr⟩ := xd_of (emb_bool X.prog X.w) I e x fun kv hk => (hf.2 kv hk).trans q
    obtain ⟨y, g2, g3⟩ := av_getD (o' := valueAt ks i) (fun a ea => by obtain ⟨v, u, q1, q2, q3⟩ := (KR.lk (emb_bool X.prog X.w) (k := i) rr).1 a ea; exact ⟨v, u, q1, q2, q3⟩) (KR.lk (emb_bool X.prog X.w) (k := i) rr).2 rz hz
    exact call_meetsIn PySem.F.slot_dict_get ty PySem.F.entry_dict_get (PySem.F.args_dict_get_3 _ _ _) (meets_dict_get_default (boolKind X.prog X.w) a ((emb_bool X.prog X.w).inn hv ru) hd r) ⟨_, dd.mapOf, h y _ _ (I.tok _) g2 g3⟩
  · obtain ⟨b, rfl⟩ := dp_ref hv q
    cases (show u = Value.ref b from ru)
    obtain ⟨xs, dd, rr⟩ := xd_ofH I sm e x fun kv hk => (hf.2 kv hk).trans q
    obtain ⟨y, g2, g3⟩ := av_getD (o' := (atKey xs (nk k)).map (·.2)) (fun a ea => by obtain ⟨v, p, q1, q2, q3⟩ := (TR.lk (k := k) rr).1 a ea; exact ⟨v, p.2, by rw [q1]; rfl, q2, q3⟩) (fun z => by rw [(TR.lk (k := k) rr).2 z]; rfl) rz hz
    exact call_meetsIn PySem.F.slot_dict_get ty PySem.F.entry_dict_get (PySem.F.args_dict_get_3 _ _ _) (meetsH_dict_get_default (nestedKind X.prog X.w) a b hd r) ⟨(by show A0.units + 1 + 8 < cLine; omega), nk k, xs, nest_key I (dp_mono sm hv) q, dd, h y _ _ (I.tok _) g2 g3⟩
theorem xd_write {h' : Heap} {t' : Nat} {es' : List DictEntry} (I : Inv X pins σ H s) (e : H a = some (xdict a es)) (hs : Heap.SameBut a s.heap h') (new : ∃ o arr ep, h'.get? a = some o ∧ o.ExactDict ∧ o.data = .dict arr ep ∧ arr.toList = es') :
    Inv X pins σ (upd H a (xdict a es')) { s with heap := h', toks := t' } := by
  obtain ⟨o, arr, ep, h1, h2, h3, h4⟩ := new
  refine d_write I (by rw [e]; exact True.intro) hs ⟨o, h1⟩ ⟨⟨o, arr, ep, h1, h2, h3, h4⟩, ⟨o, h1⟩, fun k1 k2 ⟨o, arr, ep, g1, g2, g3, g4⟩ st => ⟨o, arr, ep, st o g1, g2, g3, g4⟩⟩
/-- a[k] = r -/
theorem x_setItem {P : Hp} {y : V} {r : Value} {c : A} {Q : Unit → Shared → Prop} (hu : A0.units + 9 < cLine) (I : Inv X pins σ H s) (e : H a = some (xdict a es)) (sm : Same P H) (x : XDs X.K P es kvs) (hf : FitK kvs k) (hv : Dp X.K P v k) (ru : RelV v u) (ry : RelV y r) (hy : Av X.K P y c) (hl : kvs.length < sizeLine)
    (h : ∀ s' es', Inv X pins σ (upd H a (xdict a es')) s' → XDs X.K P es' (putX kvs k c) → Q () s') : wpAny (model X.prog X.w) A0 (setItem (.ref a) u r) Q E s := by
  have hpl : (putX kvs k c).length ≤ sizeLine := by have := putX_len kvs k c; omega
  rcases srt_cases k with q | q | q | q
  · exact absurd q hf.1
  · obtain ⟨i, rfl⟩ := (emb_int X.prog X.w).onto k q
    obtain ⟨ks, dd, rr⟩ := xd_of (emb_int X.prog X.w) I e x fun kv hk => (hf.2 kv hk).trans q
    have rl : ks.length = kvs.length := Paired.length rr
    refine wpAny_setItem_pairs (hsz := by rw [rl]; omega) ((emb_int X.prog X.w).inn hv ru) dd fun h' dd' hs => ?_
    obtain ⟨o, arr, ep, o1, o2, o3, o4, o5, o6⟩ := dd'
    have rp := KR.put (emb_int X.prog X.w) (k := i) ry hy rr
    exact h _ arr.toList (xd_write I e hs ⟨o, arr, ep, o1, o2, o3, rfl⟩) ⟨(emb_int X.prog X.w).closes o5 (fun z hz => o4 z (Array.mem_toList_iff.mp hz)) rp, hpl, (emb_int X.prog X.w).nodup' rp o6, 1, by decide, rp.srt (emb_int X.prog X.w)⟩
  · obtain ⟨i, rfl⟩ := (emb_bool X.prog X.w).onto k q
    obtain ⟨ks, dd, rr⟩ := xd_of (emb_bool X.prog X.w) I e x fun kv hk => (hf.2 kv hk).trans q
    have rl : ks.length = kvs.length := Paired.length rr
    refine wpAny_setItem_pairs (hsz := by rw [rl]; omega) ((emb_bool X.prog X.w).inn hv ru) dd fun h' dd' hs => ?_
    obtain ⟨o, arr, ep, o1, o2, o3, o4, o5, o6⟩ := dd'
    have rp := KR.put (emb_bool X.prog X.w) (k := i) ry hy rr
    exact h _ arr.toList (xd_write I e hs ⟨o, arr, ep, o1, o2, o3, rfl⟩) ⟨(emb_bool X.prog X.w).closes o5 (fun z hz => o4 z (Array.mem_toList_iff.mp hz)) rp, hpl, (emb_bool X.prog X.w).nodup' rp o6, 2, by decide, rp.srt (emb_bool X.prog X.w)⟩
  · obtain ⟨b, rfl⟩ := dp_ref hv q
    cases (show u = Value.ref b from ru)
    obtain ⟨xs, dd, rr⟩ := xd_ofH I sm e x fun kv hk => (hf.2 kv hk).trans q
    have rl : xs.length = kvs.length := Paired.length rr
    refine wpAny_setItem_heap (knd := nestedKind X.prog X.w) (hsz := by rw [rl]; omega) (by show A0.units + 1 + 8 < cLine; omega) (nest_key I (dp_mono sm hv) q) dd fun h' dd' hs => ?_
    obtain ⟨o, arr, ep, o1, o2, o3, o4, o5, o6⟩ := dd'
    have rp := TR.put (k := k) ry hy hv q rr
    exact h _ arr.toList (xd_write I e hs ⟨o, arr, ep, o1, o2, o3, rfl⟩) ⟨by rw [o4]; exact tr_closes rp, hpl, by rw [rp.nd]; exact o6, 3, by decide, rp.srt⟩
end
/-! ### tuples that hold pointers -/
theorem pav_up {K : PySem.W.Frag} {P : Hp} : ∀ {vs : List V} {xs : List A0}, Paired (Av0 K P) vs xs → PAv K P vs (xs.map A0.up)
  | _, _, .nil => .nil
  | _, _, .cons (b := x) h t => by
    refine .cons ?_ (pav_up t)
    cases x with
    | d x => exact h
    | ptr a => exact h
theorem up_pav {K : PySem.W.Frag} {P : Hp} : ∀ {xs : List A0} {vs : List V}, PAv K P vs (xs.map A0.up) → Paired (Av0 K P) vs xs
  | [], _, .nil => .nil
  | x :: xs, _, .cons h t => by
    refine .cons ?_ (up_pav t)
    cases x with
    | d x => exact h
    | ptr a => exact h
section
variable {L : List Str} {X : Cx} {ex : EX} {δ δ' : SL} {R R' : RL} {D : AEnds} {e o i : Expr} {es : List Expr} {pos p2 : Pos} {post : A → RL → Prop} {U : Res → RL} {p : Addr} {xs : List A0} {n : Int} {c : A0} {value slice : Expr}
theorem ae_tupP {j : Nat} (h : AEs X ex es δ R fun ys R1 => ∃ zs : List A0, ys = zs.map A0.up ∧ zs.length ≤ sizeLine ∧ post (.tp zs) R1) : AE X ex (.Tuple es j pos) δ R post := fun σ P H hS hW hT Q q => by
  refine wE_of (pe_tup pa_w) ?_
  refine h σ P H hS hW hT _ fun vs ys R1 P1 H1 h1 h2 h3 h4 => ?_
  obtain ⟨zs, rfl, hl, k⟩ := h1
  have hp := up_pav h2
  refine ⟨by rw [Paired.length hp]; exact hl, fun r hr => ?_⟩
  exact q _ _ R1 _ _ k ⟨r, vs, rfl, upd_same, Paired.mapP hp fun _ _ z => av0_mono (Wd.pure.Same_upd (h3.pnone hr)) z⟩ (h3.pure hr) (h4.trans (stp_pure h3 hr))
theorem ag_tupP {tgs : List Expr} {j : Nat} {q : SL → RL → Prop} (hX : XD X L) (h : AGs X ex tgs (xs.map A0.up) δ R q)
    (hn : (assignEach tgs X.env).length = xs.length := by rfl) (hst : (assignEach tgs X.env).findIdx? (·.1) = none := by rfl) : AG X ex (.Tuple tgs j pos) (.tp xs) δ R q := fun σ P H v hS hW hT hv => by
  obtain ⟨t, vs, rfl, ht, hp⟩ := (show ∃ t vs, v = .ref t ∧ P t = some (.tup vs) ∧ Paired (Av0 X.K P) vs xs from hv)
  refine wG_of (pg_tup hX.calm pgs_w hn hst) ⟨_, _, rfl, SqT.of (hW.sub _ _ ht), Paired.length hp, ?_⟩
  exact h σ P H _ hS hW hT (pav_up hp)
end
/-! ### rules for dicts whose keys are data -/
section
variable {L : List Str} {X : Cx} {ex : EX} {δ δ' : SL} {R R' : RL} {D : AEnds} {e o i : Expr} {es : List Expr} {pos p2 : Pos} {post : A → RL → Prop} {U : Res → RL} {p : Addr} {kvs : List (PyData × A)} {k : PyData} {n : Int} {c v : A} {value slice : Expr}
theorem xds_up {K : PySem.W.Frag} {P H : Hp} {es : List DictEntry} (w : Wd K R P H) (x : XDs K P es kvs) : XDs K H es kvs := xds_mono w.sub x
theorem ae_dnewX (h : ∀ r, post (.ptr r) ((r, .dX []) :: R)) : AE X ex (.Dict [] [] pos) δ R post := fun σ P H hS hW hT Q q => by
  refine wE_of (t := fun _ H Q => ∀ p, H p = none → (p == sysModules) = false → Q (.ref p) (upd H p (xdict p []))) ?_ ?_
  · refine ⟨fun pins s σ H Q I h => ?_⟩
    refine wpAny_Dict_empty ?_
    refine ⟨.ref s.heap.objs.size, _, I.laid (a := s.heap.objs.size) (o := xdict s.heap.objs.size []) (t' := s.toks) (fun b u q => Heap.get?_push_of_some _ q) (Nat.le_refl _) ?_, rfl, h _ (I.hok.fresh (Nat.le_refl _)) (beq_eq_false_iff_ne.mpr (Ne.symm (Nat.ne_of_lt I.big)))⟩
    have ho : (s.heap.push { cls := .type "dict", data := .dict #[] }).get? s.heap.objs.size = some { cls := .type "dict", data := .dict #[] } := Heap.get?_push_size _ rfl
    exact ⟨⟨_, #[], 0, ho, ⟨rfl, rfl, rfl⟩, rfl, rfl⟩, ⟨_, ho⟩, fun h1 h2 ⟨o, arr, ep, g1, g2, g3, g4⟩ st => ⟨o, arr, ep, st o g1, g2, g3, g4⟩⟩
  · intro r hr hm
    exact q _ _ _ P _ (h r) rfl (hW.new hr ⟨[], upd_same, hm, .nil, Nat.zero_le _, List.nodup_nil, 1, by decide, fun kv hk => by cases hk⟩) (stp_new hr)
theorem ba_inX (hu : XU X) (hs : Sel R p (.dX kvs) U) (hf : FitK kvs k) (kk : post (.b (lkX kvs k).isSome) R) : BA X (compareOp .In) (.d k) (.ptr p) R post := by
  intro P H x y ha hb hW Q q pins st σ v u I r1 r2
  cases (show y = .ref p from hb)
  obtain rfl : u = Value.ref p := r2
  obtain ⟨es, h1, h2, h3⟩ := hW.get hs
  exact x_in (by have := hu; show _; omega) I h1 h2 hW.sub h3 hf ha r1 fun s' I' => ⟨.bl _, H, I', rfl, q _ _ R P H kk aBl hW Stp.refl⟩
theorem ba_ninX (hu : XU X) (hs : Sel R p (.dX kvs) U) (hf : FitK kvs k) (kk : post (.b (!(lkX kvs k).isSome)) R) : BA X (compareOp .NotIn) (.d k) (.ptr p) R post := by
  intro P H x y ha hb hW Q q pins st σ v u I r1 r2
  cases (show y = .ref p from hb)
  obtain rfl : u = Value.ref p := r2
  obtain ⟨es, h1, h2, h3⟩ := hW.get hs
  exact x_notIn (by have := hu; show _; omega) I h1 h2 hW.sub h3 hf ha r1 fun s' I' => ⟨.bl _, H, I', rfl, q _ _ R P H kk aBl hW Stp.refl⟩
theorem ia_dX (hu : XU X) (hs : Sel R p (.dX kvs) U) (hf : FitK kvs k) (ha : lkX kvs k = some c) (kk : post c R) (hp : NoSl slice := by exact fun _ _ => rfl) : IA X value slice (.ptr p) (.d k) R post := fun P H v w hv hw hW Q q pins s σ u u' I r1 r2 => by
  cases (show v = .ref p from hv)
  obtain rfl : u = Value.ref p := r1
  obtain ⟨es, h1, h2, h3⟩ := hW.get hs
  exact subTail_of PySem.F.slot_dict_getitem.lookup hp (xd_type I h1) (x_getItem (by have := hu; show _; omega) I h1 hW.sub h3 hf hw r2 ha fun y w' s3 I3 rw' hy => ⟨y, H, I3, rw', q _ _ R P H kk hy hW Stp.refl⟩)
theorem pset_dX (hu : XU X) : PSet X (fun o i v H Q => ∃ (a : Addr) (es : List DictEntry) (kvs : List (PyData × A)) (k : PyData) (P : Hp) (c : A), o = .ref a ∧ H a = some (xdict a es) ∧ Same P H ∧ XDs X.K P es kvs ∧ FitK kvs k ∧ Dp X.K P i k ∧ Av X.K P v c ∧ kvs.length < sizeLine ∧ ∀ es', XDs X.K P es' (putX kvs k c) → Q (upd H a (xdict a es'))) := by
  rintro pins s σ H o i v ov iv u Q I r1 r2 r3 ⟨a, es, kvs, k, P, c, rfl, h1, h2, h3, h4, h5, h6, h7, q⟩
  obtain rfl : ov = Value.ref a := r1
  exact x_setItem (by have := hu; show X.A.units + 9 < cLine; omega) I h1 h2 h3 h4 h5 r2 r3 h6 h7 fun s4 es' I4 x => ⟨_, I4, q es' x⟩
theorem sta_dX {q : RL → Prop} (hu : XU X) (hs : Sel R p (.dX kvs) U) (hf : FitK kvs k) (hl : kvs.length < sizeLine) (kk : q (U (.dX (putX kvs k v)))) : StA X (.ptr p) (.d k) v R q := ⟨_, pset_dX hu, fun P H x y z hx hy hz hW Q c => by
  cases (show x = .ref p from hx)
  obtain ⟨es, h1, h2, h3⟩ := hW.get hs
  exact ⟨p, es, kvs, k, P, v, rfl, h1, hW.sub, h3, hf, hy, hz, hl, fun es' x' => c _ P _ kk (hW.put hs ⟨es', upd_same, h2, x'⟩) (stp_put hW hs)⟩⟩
/-- d.get(k, z) -/
theorem ae_dget2X {apos cpos : Pos} {f : Expr} (hu : XU X) (m : M2 X o "get" apos e f cpos)
    (h : AE X ex o δ R fun x R1 => ∃ p kvs U, x = .ptr p ∧ Sel R1 p (.dX kvs) U ∧ AE X ex e δ R1 fun y R2 => ∃ k, y = .d k ∧ AE X ex f δ R2 fun z R3 => ∃ kvs U, Sel R3 p (.dX kvs) U ∧ FitK kvs k ∧ post ((lkX kvs k).getD z) R3) :
    AE X ex (.Call (.Attribute o "get" apos) [e, f] [] cpos) δ R post := fun σ P H hS hW hT Q q => by
  refine wE_of (t := fun σ H Q => wE X o σ H fun x H1 => ∃ (a : Addr) (es : List DictEntry), x = .ref a ∧ H1 a = some (xdict a es) ∧ wE X e σ H1 fun y H2 => wE X f σ H2 fun z H3 => ∃ (es : List DictEntry) (kvs : List (PyData × A)) (k : PyData) (P : Hp) (d : A), H3 a = some (xdict a es) ∧ (a == sysModules) = false ∧ Same P H3 ∧ XDs X.K P es kvs ∧ FitK kvs k ∧ Dp X.K P y k ∧ Av X.K P z d ∧ ∀ w, Av X.K P w ((lkX kvs k).getD d) → Q w H3) ?_ ?_
  · refine ⟨fun pins s σ H Q I h => ?_⟩
    refine wpAny_Call_method m.base m.few m.line PySem.F.plainAttrs_dict PySem.F.slot_dict_get PySem.F.type_dict_get (thn (h pins s I) fun u s1 ⟨x, H1, I1, rx, a, es, ex, hd, q1⟩ => ?_)
    subst ex
    obtain rfl : u = Value.ref a := rx
    refine ⟨xd_type I1 hd, fun b q => ?_, ?_⟩
    · cases q
      obtain ⟨ob, _, _, h1, h2, _⟩ := xd_raw I1 hd
      exact ⟨ob, h1, h2.2.1⟩
    rw [m.trees]
    refine Calls.callWith_builtin rfl (Calls.evalArgs_plain (Calls.spliced_cons (thn (q1 pins s1 I1) fun iv s2 ⟨y, H2, I2, ry, q2⟩ =>
      Calls.spliced_cons (thn (q2 pins s2 I2) fun fv s3 ⟨z, H3, I3, rz, es, kvs, k, P, d, g1, g2, g3, g4, g5, g6, g7, q3⟩ => Calls.spliced_nil ?_))))
    exact x_get2 (by have := hu; show X.A.units + 9 < cLine; omega) I3 g1 g2 g3 g4 g5 g6 ry rz g7 fun w w' s4 I4 rw' hw => ⟨w, H3, I4, rw', q3 w hw⟩
  refine h σ P H hS hW hT _ fun v x R1 P1 H1 h1 h2 h3 h4 => ?_
  obtain ⟨p, kvs, U, rfl, hs, h1⟩ := h1
  cases (show v = .ref p from h2)
  obtain ⟨es, e1, e2, e3⟩ := h3.get hs
  refine ⟨p, es, rfl, e1, ?_⟩
  refine h1 σ P1 H1 (hS.mono h4.ex) h3 (hT.step h4) _ fun y ya R2 P2 H2 k1 k2 k3 k4 => ?_
  obtain ⟨k, rfl, k1⟩ := k1
  have s2 := h4.trans k4
  refine k1 σ P2 H2 (hS.mono s2.ex) k3 (hT.step s2) _ fun z za R3 P3 H3 m1 m2 m3 m4 => ?_
  obtain ⟨kvs3, U3, hs3, hf, kk⟩ := m1
  obtain ⟨es3, e4, e5, e6⟩ := m3.get hs3
  exact ⟨es3, kvs3, k, P3, za, e4, e5, m3.sub, e6, hf, av_mono m4.ex k2, m2, fun w hw => q _ _ R3 P3 H3 kk hw m3 (s2.trans m4)⟩
end
end AL

namespace AL
open PySem L2 PySem.Spec PyProof.Rows
local macro_rules | `(tactic| walk_at "len") => `(tactic| omega)
local macro_rules | `(tactic| walk_at "ixl") => `(tactic| rfl)
local macro_rules | `(tactic| walk_at "fno") => `(tactic| rfl)
local macro_rules | `(tactic| walk_at "flk") => `(tactic| rfl)
/-! steps of the walk, by the syntax that stands -/
local macro_rules | `(tactic| walk_at "lk") => `(tactic| (repeat (first | with_reducible exact Lk.here | with_reducible apply Lk.there)))
local macro_rules | `(tactic| walk_at "up") => `(tactic| (repeat (first | with_reducible exact Up.here | with_reducible apply Up.there)))
local macro_rules | `(tactic| walk_at "mem") => `(tactic| (repeat (first | with_reducible exact List.mem_cons_self | with_reducible refine List.mem_cons_of_mem _ ?_)))
local macro_rules | `(tactic| walk_at "sel") => `(tactic| (repeat (first | with_reducible exact Sel.here | with_reducible apply Sel.there)))
local macro_rules | `(tactic| walk_at "rem") => `(tactic| (repeat (first | with_reducible exact Rem.here | with_reducible apply Rem.there)))
local macro_rules | `(tactic| walk_at "asd") => `(tactic| (repeat (first | with_reducible exact AsD.nil | with_reducible exact AsD.map _ | with_reducible apply AsD.cons)))
local macro_rules | `(tactic| walk_at "fg") => `(tactic| (repeat (first | with_reducible exact Fg.nil | with_reducible exact Fg.refl _ | with_reducible apply Fg.keep | with_reducible apply Fg.drop)))
local macro_rules | `(tactic| walk_at "le") => `(tactic| (repeat (first | with_reducible exact Le.refl _ | with_reducible exact Le.nil _ | (with_reducible apply Le.cons; (· walk_at "rem"; done)))))
local macro_rules | `(tactic| walk_at "spl") => `(tactic| (repeat (first | with_reducible exact Spl.nil | (with_reducible apply Spl.cons; (· walk_at "rem"; done)))))
local macro_rules | `(tactic| walk_at "ae") => `(tactic| first
  | ((with_reducible show AE _ _ (Expr.Name _ _) _ _ _); apply ae_var; (· walk_at "lk"; done))
  | ((with_reducible show AE _ _ (Expr.Name "tuple" _) _ _ _); refine ae_tyTuple (by assumption) ?_)
  | ((with_reducible show AE _ _ (Expr.Name "list" _) _ _ _); refine ae_tyList (by assumption) ?_)
  | ((with_reducible show AE _ _ (Expr.Name "bool" _) _ _ _); refine ae_tyBool (by assumption) ?_)
  | ((with_reducible show AE _ _ (Expr.Name "int" _) _ _ _); refine ae_tyInt (by assumption) ?_)
  | ((with_reducible show AE _ _ (Expr.Name "str" _) _ _ _); refine ae_tyStr (by assumption) ?_)
  | ((with_reducible show AE _ _ (Expr.Name _ _) _ _ _); refine' ae_cst (by assumption) ?_)
  | ((with_reducible show AE _ _ (Expr.Constant (Const.int _) _ _) _ _ _); refine ae_int ?_)
  | ((with_reducible show AE _ _ (Expr.BinOp _ _ _ _) _ _ _); refine ae_bin ?_)
  | ((with_reducible show AE _ _ (Expr.Subscript _ (Expr.Slice _ _ _ _) _) _ _ _); refine ae_slice ?_)
  | ((with_reducible show AE _ _ (Expr.Subscript _ _ _) _ _ _); refine ae_sub ?_)
  | ((with_reducible show AE _ _ (Expr.Compare _ [_] [_] _) _ _ _); refine ae_cmp (by rfl) ?_)
  | ((with_reducible show AE _ _ (Expr.Compare _ [_, _] [_, _] _) _ _ _); refine ae_chain (by with_unfolding_all rfl) ?_)
  | ((with_reducible show AE _ _ (Expr.Call (Expr.Name "len" _) _ _ _) _ _ _); refine ae_len (by assumption) ?_)
  | ((with_reducible show AE _ _ (Expr.Call (Expr.Name "int" _) _ _ _) _ _ _); refine ae_intT (by assumption) ?_)
  | ((with_reducible show AE _ _ (Expr.Call (Expr.Name "abs" _) _ _ _) _ _ _); refine ae_absB (by assumption) ?_)
  | ((with_reducible show AE _ _ (Expr.Call (Expr.Name "sum" _) _ _ _) _ _ _); refine ae_sumB (by assumption) ?_)
  | ((with_reducible show AE _ _ (Expr.Call (Expr.Name "tuple" _) _ _ _) _ _ _); refine ae_tupleT (by assumption) ?_)
  | ((with_reducible show AE _ _ (Expr.Call (Expr.Name "list" _) _ _ _) _ _ _); refine ae_listT (by assumption) ?_)
  | ((with_reducible show AE _ _ (Expr.Call (Expr.Name "min" _) _ _ _) _ _ _); refine ae_minB (by assumption) ?_)
  | ((with_reducible show AE _ _ (Expr.Call (Expr.Name "max" _) _ _ _) _ _ _); refine ae_maxB (by assumption) ?_)
  | ((with_reducible show AE _ _ (Expr.Call (Expr.Name "gcd" _) _ _ _) _ _ _); refine ae_callBfun (by assumption) ?_)
  | ((with_reducible show AE _ _ (Expr.Call (Expr.Name "isinstance" _) _ _ _) _ _ _); refine ae_isinst (by assumption) ?_)
  | ((with_reducible show AE _ _ (Expr.Call (Expr.Attribute _ "bit_length" _) _ _ _) _ _ _); refine ae_bits ?_)
  | ((with_reducible show AE _ _ (Expr.Call (Expr.Attribute _ "append" _) _ _ _) _ _ _); refine ae_append ?_)
  | ((with_reducible show AE _ _ (Expr.Call (Expr.Attribute _ "insert" _) [_, _] _ _) _ _ _); refine ae_insert ?_)
  | ((with_reducible show AE _ _ (Expr.Call (Expr.Attribute _ "index" _) [_] _ _) _ _ _); refine ae_index ?_)
  | ((with_reducible show AE _ _ (Expr.Call (Expr.Attribute _ "pop" _) [] _ _) _ _ _); refine ae_pop ?_)
  | ((with_reducible show AE _ _ (Expr.Call (Expr.Attribute _ _ _) (_ :: _) [] _) _ _ _); refine' ae_meth (by assumption) (by assumption) (by decide) ?_)
  | ((with_reducible show AE _ _ (Expr.Attribute _ _ _) _ _ _); refine ae_fld (by rfl) ?_)
  | ((with_reducible show AE _ _ (Expr.Call (Expr.Name _ _) _ _ _) _ _ _); first
      | refine' ae_callP (by assumption) (by assumption) (by decide) ?_
      | refine' ae_call (by assumption) (by assumption) (by decide) ?_)
  | ((with_reducible show AE _ _ (Expr.Tuple _ _ _) _ _ _); refine ae_tup ?_)
  | ((with_reducible show AE _ _ (Expr.List _ _) _ _ _); refine ae_lst ?_)
  | ((with_reducible show AE _ _ (Expr.Constant (Const.bool _) _ _) _ _ _); refine ae_bl ?_)
  | ((with_reducible show AE _ _ (Expr.Constant (Const.str _) _ _) _ _ _); refine ae_str ?_)
  | ((with_reducible show AE _ _ (Expr.Constant Const.none _ _) _ _ _); refine ae_non ?_)
  | ((with_reducible show AE _ _ (Expr.UnaryOp UnaryOp.USub _ _) _ _ _); refine ae_neg ?_)
  | ((with_reducible show AE _ _ (Expr.UnaryOp UnaryOp.Not _ _) _ _ _); refine ae_not ?_)
  | ((with_reducible show AE _ _ (Expr.BoolOp BoolOp.And [_] _) _ _ _); refine ae_one ?_)
  | ((with_reducible show AE _ _ (Expr.BoolOp BoolOp.Or [_] _) _ _ _); refine ae_one ?_)
  | ((with_reducible show AE _ _ (Expr.BoolOp BoolOp.And _ _) _ _ _); refine ae_and ?_)
  | ((with_reducible show AE _ _ (Expr.BoolOp BoolOp.Or _ _) _ _ _); refine ae_or ?_)
  | ((with_reducible show AE _ _ (Expr.IfExp _ _ _ _) _ _ _); refine ae_if ?_))
local macro_rules | `(tactic| walk_at "ba") => `(tactic| first
  | with_reducible refine ba_add ?_
  | with_reducible refine ba_sub ?_
  | ((with_reducible show BA _ (binaryOp Operator.Mult) (A.d (PyData.int _)) (A.d (PyData.int _)) _ _); first
      | refine ba_mul (Or.inr ⟨by decide, by decide⟩) ?_
      | refine ba_mul (Or.inl ⟨by decide, by decide⟩) ?_
      | refine ba_mulX (mulx_ok (by assumption) (by assumption) (by decide)) ?_)
  | ((with_reducible show BA _ (binaryOp Operator.FloorDiv) (A.d (PyData.int _)) (A.d (PyData.int _)) _ _); refine ba_fdiv ⟨by decide, by decide⟩ ?_)
  | ((with_reducible show BA _ (binaryOp Operator.Mod) (A.d (PyData.int _)) (A.d (PyData.int _)) _ _); refine ba_mod (by decide) ?_)
  | ((with_reducible show BA _ (compareOp CmpOp.NotIn) (A.tk _) (A.ptr _) _ _); apply ba_ninT (by assumption); (· walk_at "sel"; done))
  | with_reducible refine ba_lt ?_
  | with_reducible refine ba_le ?_
  | with_reducible refine ba_gt ?_
  | with_reducible refine ba_ge ?_
  | with_reducible refine ba_eq ?_
  | with_reducible refine ba_ne ?_
  | with_reducible refine ba_eqS ?_
  | with_reducible refine ba_neS ?_
  | with_reducible refine ba_isN ?_
  | with_reducible refine ba_notN ?_
  | with_reducible refine ba_iadd ?_
  | with_reducible refine ba_isub ?_
  | with_reducible refine ba_eqB ?_
  | with_reducible refine ba_neB ?_
  | ((with_reducible show BA _ (binaryOp Operator.RShift) (A.d (PyData.int _)) (A.d (PyData.int _)) _ _); refine ba_shr (by decide) ?_))
local macro_rules | `(tactic| walk_at "ia") => `(tactic| first
  | ((with_reducible show IA _ _ _ (A.ptr _) (A.tk _) _ _); apply ia_dTk (by assumption); (· walk_at "sel"; done))
  | ((with_reducible show IA _ _ _ (A.ptr _) (A.d (PyData.int _)) _ _); refine' ia_lst ?hs ?ha ?kk; (case hs => walk_at "sel"; done); (case ha => walk_at "ixl"))
  | refine ia_t (ha := rfl) ?_
  | refine ia_l (ha := rfl) ?_)
local macro_rules | `(tactic| walk_at "ca") => `(tactic| first
  | with_reducible refine ca_isTup ?_
  | with_reducible refine ca_isLst ?_
  | with_reducible refine ca_isBol ?_
  | with_reducible refine ca_isInt ?_
  | with_reducible refine ca_isTxt ?_
  | with_reducible refine ca_int ?_
  | with_reducible refine ca_intB ?_
  | with_reducible refine ca_abs ?_
  | with_reducible refine ca_sum_t rfl ?_
  | with_reducible refine ca_gcd ?_
  | with_reducible refine ca_len_l ?_
  | with_reducible refine ca_len_t ?_
  | ((with_reducible show CA _ (Value.builtin "len") [A.ptr _] _ _); refine' ca_len_lst ?hs ?kk; (case hs => walk_at "sel"; done))
  | with_reducible refine ca_list_l ?_
  | with_reducible refine ca_list_t ?_
  | ((with_reducible show CA _ (Value.type "list") [A.ptr _] _ _); refine' ca_list_lst ?hs ?kk; (case hs => walk_at "sel"; done))
  | with_reducible refine ca_tuple_l ?_
  | with_reducible refine ca_tuple_t ?_
  | ((with_reducible show CA _ (Value.type "tuple") [A.ptr _] _ _); refine' ca_tuple_lst ?hs ?hd ?kk; (case hs => walk_at "sel"; done); (case hd => walk_at "asd"; done)))
local macro_rules | `(tactic| walk_at "at") => `(tactic| first
  | ((with_reducible show AT _ _ (Expr.Compare _ [_] [_] _) _ _ _); refine at_cmp (by rfl) ?_)
  | ((with_reducible show AT _ _ (Expr.Compare _ [_, _] [_, _] _) _ _ _); refine at_chain (by with_unfolding_all rfl) ?_)
  | ((with_reducible show AT _ _ (Expr.UnaryOp UnaryOp.Not _ _) _ _ _); refine at_not ?_)
  | ((with_reducible show AT _ _ (Expr.BoolOp _ _ _) _ _ _); refine at_of_w ?_)
  | ((with_reducible show AW _ _ (Expr.BoolOp BoolOp.And [_] _) _ _ _); refine aw_and1 ?_)
  | ((with_reducible show AW _ _ (Expr.BoolOp BoolOp.Or [_] _) _ _ _); refine aw_or1 ?_)
  | ((with_reducible show AW _ _ (Expr.BoolOp BoolOp.And _ _) _ _ _); refine aw_and ?_)
  | ((with_reducible show AW _ _ (Expr.BoolOp BoolOp.Or _ _) _ _ _); refine aw_or ?_)
  | ((with_reducible show AT _ _ _ _ _ _); refine at_tru ?_))
local macro_rules | `(tactic| walk_at "as") => `(tactic| first
  | ((with_reducible show ASs _ _ (defBody _) _ _ _); refine as_cons ?_)
  | ((with_reducible show ASs _ _ (_ :: _) _ _ _); refine as_cons ?_)
  | ((with_reducible show ASs _ _ [] _ _ _); refine as_nil ?_)
  | ((with_reducible show AS _ _ (Stmt.Assign [Expr.Attribute _ _ _] _ _) _ _ _); refine as_fld ?_)
  | ((with_reducible show AS _ _ (Stmt.Assign [_] _ _) _ _ _); refine as_asg ?_)
  | ((with_reducible show AG _ _ (Expr.Name _ _) _ _ _ _); refine' ag_name (by assumption) ?hm ?hu ?kk; (case hm => walk_at "mem"; done); (case hu => walk_at "up"; done))
  | ((with_reducible show AG _ _ (Expr.Tuple _ _ _) _ _ _ _); refine ag_tup (by assumption) ?_)
  | ((with_reducible show AG _ _ (Expr.Subscript _ _ _) _ _ _ _); refine ag_sub ?_)
  | ((with_reducible show AGs _ _ (_ :: _) (_ :: _) _ _ _); refine ags_cons ?_)
  | ((with_reducible show AGs _ _ [] [] _ _ _); refine ags_nil ?_)
  | ((with_reducible show StA _ (A.ptr _) (A.d (PyData.int _)) _ _ _); refine' sta_lst ?hs ?hj ?kk; (case hs => walk_at "sel"; done); (case hj => rfl))
  | ((with_reducible show StA _ (A.ptr _) (A.tk _) _ _ _); refine' sta_dTk (by assumption) ?hs ?hl ?kk; (case hs => walk_at "sel"; done); (case hl => walk_at "len"; done))
  | ((with_reducible show AS _ _ (Stmt.If _ _ _ _) _ _ _); refine as_if ?_)
  | ((with_reducible show AS _ _ (Stmt.Return (some _) _) _ _ _); refine as_ret ?_)
  | ((with_reducible show AS _ _ (Stmt.Expr _ _) _ _ _); refine as_expr ?_)
  | ((with_reducible show AS _ _ (Stmt.AugAssign (Expr.Name _ _) _ _ _) _ _ _); refine' as_aug (by assumption) ?hm ?hl ?kk; (case hm => walk_at "mem"; done); (case hl => walk_at "lk"; done))
  | ((with_reducible show AS _ _ (Stmt.Break _) _ _ _); refine as_brk ?_)
  | ((with_reducible show AS _ _ (Stmt.Continue _) _ _ _); refine as_cont ?_)
  | ((with_reducible show AS _ _ (Stmt.Pass _) _ _ _); refine as_pass ?_))
local macro_rules | `(tactic| walk_at "go1") => `(tactic| first
  | ((with_reducible show AE _ _ _ _ _ _); walk_at "ae")
  | ((with_reducible show BA _ _ _ _ _ _); walk_at "ba")
  | ((with_reducible show IA _ _ _ _ _ _ _); walk_at "ia")
  | ((with_reducible show AEs _ _ (_ :: _) _ _ _); refine aes_cons ?_)
  | ((with_reducible show AEs _ _ [] _ _ _); refine aes_nil ?_)
  | ((with_reducible show CA _ _ _ _ _); walk_at "ca")
  | ((with_reducible show ∃ k, A.d (PyData.bool _) = A.d (PyData.bool k) ∧ _); refine ⟨_, rfl, ?_⟩)
  | ((with_reducible show ∃ k, TruA _ _ k ∧ _); refine ⟨_, rfl, ?_⟩)
  | ((with_reducible show ∃ n : Int, A.d (PyData.int _) = A.d (PyData.int n) ∧ _); refine ⟨_, rfl, ?_⟩)
  | ((with_reducible show ∃ ds, AsD _ ds ∧ _); apply Exists.intro; apply And.intro; (· walk_at "asd"; done))
  | ((with_reducible show FldA _ _ (A.ptr _) _ _); apply fld_of; (· walk_at "sel"; done); (· assumption); (· assumption); (· walk_at "flk"; done))
  | ((with_reducible show FstA _ _ _ (A.ptr _) _ _); apply fset_of; (· walk_at "sel"; done); (· assumption); (· assumption); (· exact of_decide_eq_true rfl))
  | ((with_reducible show MthA _ _ (A.ptr _) _ _); apply meth_of; (· walk_at "sel"; done); (· walk_at "fno"; done))
  | ((with_reducible show LstA (A.ptr _) _ _); apply app_of; (· walk_at "sel"; done))
  | ((with_reducible show MA _ "list.pop" _ _ _ _); apply ma_pop; (· walk_at "sel"; done))
  | ((with_reducible show MA _ "list.append" _ _ _ _); refine' ma_append ?hs ?hl ?kk; (case hs => walk_at "sel"; done); (case hl => walk_at "len"; done))
  | ((with_reducible show List.length [] ≤ sizeLine ∧ _); refine ⟨Nat.zero_le _, fun _ => ?_⟩)
  | ((with_reducible show AO _ _ none _ _ _); refine ao_none ?_)
  | ((with_reducible show AO _ _ (some _) _ _ _); refine ao_some ?_)
  | ((with_reducible show SA _ (A.d (PyData.list _)) _ _ _ _); refine sa_l ?_)
  | ((with_reducible show SA _ (A.ptr _) _ _ _ _); apply sa_lst; (· walk_at "sel"; done))
  | walk_at "as"
  | walk_at "at"
  | ((with_reducible show (_ = true → _) ∧ (_ = false → _)); first | (refine ⟨?_, fun _ => ?_⟩; (· intro h; cases h; done)) | (refine ⟨fun _ => ?_, ?_⟩; rotate_left; (· intro h; cases h; done)))
  | ((with_reducible show (_ = false → _) ∧ (_ = true → _)); first | (refine ⟨?_, fun _ => ?_⟩; (· intro h; cases h; done)) | (refine ⟨fun _ => ?_, ?_⟩; rotate_left; (· intro h; cases h; done))))
local macro_rules | `(tactic| walk_at "go") => `(tactic| (repeat walk_at "go1"))
local macro_rules | `(tactic| walk_at "br") => `(tactic| first
  | (refine ⟨?_, fun _ => ?_⟩; (· intro h; exfalso; (try simp only [decide_eq_true_eq, decide_eq_false_iff_not, Bool.not_eq_true', Bool.not_eq_false', Bool.not_eq_true, Bool.not_eq_false, bne_iff_ne, ne_eq, bne_eq_false_iff_eq] at h); omega))
  | (refine ⟨fun _ => ?_, ?_⟩; rotate_left; (· intro h; exfalso; (try simp only [decide_eq_true_eq, decide_eq_false_iff_not, Bool.not_eq_true', Bool.not_eq_false', Bool.not_eq_true, Bool.not_eq_false, bne_iff_ne, ne_eq, bne_eq_false_iff_eq] at h); omega)))
local macro_rules | `(tactic| walk_at "auto") => `(tactic| (repeat (first | walk_at "go1" | ((with_reducible show (_ = true → _) ∧ (_ = false → _)); walk_at "br") | ((with_reducible show (_ = false → _) ∧ (_ = true → _)); walk_at "br"))))
local macro_rules | `(tactic| walk_at "goI") => `(tactic| iterate 40 (try (first | (with_reducible show AS _ _ (Stmt.If _ _ _ _) _ _ _) | walk_at "go1")))
local macro_rules | `(tactic| walk_at "goT") => `(tactic| iterate 40 (try (first | (with_reducible show AS _ _ (Stmt.Try _ _ _ _ _) _ _ _) | walk_at "go1")))

def top (i : Nat) : Stmt := PySem.Challenge.pw_odds_k77_likeliest_assignments.main.body.getD i (.Pass ⟨0, 0, 0, 0⟩)
abbrev s_ratio : Stmt := top 10
theorem sc_ratio : FnScope ["top", "bottom", "common"] ["top", "bottom"] (defScope s_ratio) := ⟨rfl, rfl, rfl, by decide +kernel, rfl, by decide +kernel, by decide +kernel⟩
theorem lc_ratio : (∀ x ∈ (["top", "bottom", "common"] : List Str), Loc2 (defScope s_ratio) x) ∧ ∀ x ∈ (["top", "bottom"] : List Str), x ∈ (["top", "bottom", "common"] : List Str) := loc2_all (by decide +kernel)
abbrev s_minus : Stmt := top 11
theorem sc_minus : FnScope ["a", "b"] ["a", "b"] (defScope s_minus) := ⟨rfl, rfl, rfl, by decide +kernel, rfl, by decide +kernel, by decide +kernel⟩
theorem lc_minus : (∀ x ∈ (["a", "b"] : List Str), Loc2 (defScope s_minus) x) ∧ ∀ x ∈ (["a", "b"] : List Str), x ∈ (["a", "b"] : List Str) := loc2_all (by decide +kernel)
abbrev s_times : Stmt := top 12
theorem sc_times : FnScope ["a", "b"] ["a", "b"] (defScope s_times) := ⟨rfl, rfl, rfl, by decide +kernel, rfl, by decide +kernel, by decide +kernel⟩
theorem lc_times : (∀ x ∈ (["a", "b"] : List Str), Loc2 (defScope s_times) x) ∧ ∀ x ∈ (["a", "b"] : List Str), x ∈ (["a", "b"] : List Str) := loc2_all (by decide +kernel)
abbrev s_over : Stmt := top 13
theorem sc_over : FnScope ["a", "b"] ["a", "b"] (defScope s_over) := ⟨rfl, rfl, rfl, by decide +kernel, rfl, by decide +kernel, by decide +kernel⟩
theorem lc_over : (∀ x ∈ (["a", "b"] : List Str), Loc2 (defScope s_over) x) ∧ ∀ x ∈ (["a", "b"] : List Str), x ∈ (["a", "b"] : List Str) := loc2_all (by decide +kernel)
abbrev s_compare : Stmt := top 14
theorem sc_compare : FnScope ["a", "b", "difference"] ["a", "b"] (defScope s_compare) := ⟨rfl, rfl, rfl, by decide +kernel, rfl, by decide +kernel, by decide +kernel⟩
theorem lc_compare : (∀ x ∈ (["a", "b", "difference"] : List Str), Loc2 (defScope s_compare) x) ∧ ∀ x ∈ (["a", "b"] : List Str), x ∈ (["a", "b", "difference"] : List Str) := loc2_all (by decide +kernel)
abbrev s_rest : Stmt := top 15
theorem sc_rest : FnScope ["r"] ["r"] (defScope s_rest) := ⟨rfl, rfl, rfl, by decide +kernel, rfl, by decide +kernel, by decide +kernel⟩
theorem lc_rest : (∀ x ∈ (["r"] : List Str), Loc2 (defScope s_rest) x) ∧ ∀ x ∈ (["r"] : List Str), x ∈ (["r"] : List Str) := loc2_all (by decide +kernel)
abbrev s_Store___init__ : Stmt := inClass (top 20) 0
theorem sc_Store___init__ : FnScope ["self"] ["self"] (defScope s_Store___init__) := ⟨rfl, rfl, rfl, by decide +kernel, rfl, by decide +kernel, by decide +kernel⟩
theorem lc_Store___init__ : (∀ x ∈ (["self"] : List Str), Loc2 (defScope s_Store___init__) x) ∧ ∀ x ∈ (["self"] : List Str), x ∈ (["self"] : List Str) := loc2_all (by decide +kernel)
abbrev s_Store_node : Stmt := inClass (top 20) 1
theorem sc_Store_node : FnScope ["self", "level", "low", "high", "key"] ["self", "level", "low", "high"] (defScope s_Store_node) := ⟨rfl, rfl, rfl, by decide +kernel, rfl, by decide +kernel, by decide +kernel⟩
theorem lc_Store_node : (∀ x ∈ (["self", "level", "low", "high", "key"] : List Str), Loc2 (defScope s_Store_node) x) ∧ ∀ x ∈ (["self", "level", "low", "high"] : List Str), x ∈ (["self", "level", "low", "high", "key"] : List Str) := loc2_all (by decide +kernel)
abbrev s_Store_coin : Stmt := inClass (top 20) 2
theorem sc_Store_coin : FnScope ["self", "level"] ["self", "level"] (defScope s_Store_coin) := ⟨rfl, rfl, rfl, by decide +kernel, rfl, by decide +kernel, by decide +kernel⟩
theorem lc_Store_coin : (∀ x ∈ (["self", "level"] : List Str), Loc2 (defScope s_Store_coin) x) ∧ ∀ x ∈ (["self", "level"] : List Str), x ∈ (["self", "level"] : List Str) := loc2_all (by decide +kernel)
abbrev s_Store_level : Stmt := inClass (top 20) 3
theorem sc_Store_level : FnScope ["self", "a"] ["self", "a"] (defScope s_Store_level) := ⟨rfl, rfl, rfl, by decide +kernel, rfl, by decide +kernel, by decide +kernel⟩
theorem lc_Store_level : (∀ x ∈ (["self", "a"] : List Str), Loc2 (defScope s_Store_level) x) ∧ ∀ x ∈ (["self", "a"] : List Str), x ∈ (["self", "a"] : List Str) := loc2_all (by decide +kernel)
abbrev s_Store_low : Stmt := inClass (top 20) 4
theorem sc_Store_low : FnScope ["self", "a"] ["self", "a"] (defScope s_Store_low) := ⟨rfl, rfl, rfl, by decide +kernel, rfl, by decide +kernel, by decide +kernel⟩
theorem lc_Store_low : (∀ x ∈ (["self", "a"] : List Str), Loc2 (defScope s_Store_low) x) ∧ ∀ x ∈ (["self", "a"] : List Str), x ∈ (["self", "a"] : List Str) := loc2_all (by decide +kernel)
abbrev s_Store_high : Stmt := inClass (top 20) 5
theorem sc_Store_high : FnScope ["self", "a"] ["self", "a"] (defScope s_Store_high) := ⟨rfl, rfl, rfl, by decide +kernel, rfl, by decide +kernel, by decide +kernel⟩
theorem lc_Store_high : (∀ x ∈ (["self", "a"] : List Str), Loc2 (defScope s_Store_high) x) ∧ ∀ x ∈ (["self", "a"] : List Str), x ∈ (["self", "a"] : List Str) := loc2_all (by decide +kernel)
abbrev s_Store_top_level : Stmt := inClass (top 20) 6
theorem sc_Store_top_level : FnScope ["self", "references", "a"] ["self", "references"] (defScope s_Store_top_level) := ⟨rfl, rfl, rfl, by decide +kernel, rfl, by decide +kernel, by decide +kernel⟩
theorem lc_Store_top_level : (∀ x ∈ (["self", "references"] : List Str), Loc2 (defScope s_Store_top_level) x) ∧ ∀ x ∈ (["self", "references"] : List Str), x ∈ (["self", "references"] : List Str) := loc2_all (by decide +kernel)
abbrev s_Store_part : Stmt := inClass (top 20) 7
theorem sc_Store_part : FnScope ["self", "a", "level", "value"] ["self", "a", "level", "value"] (defScope s_Store_part) := ⟨rfl, rfl, rfl, by decide +kernel, rfl, by decide +kernel, by decide +kernel⟩
theorem lc_Store_part : (∀ x ∈ (["self", "a", "level", "value"] : List Str), Loc2 (defScope s_Store_part) x) ∧ ∀ x ∈ (["self", "a", "level", "value"] : List Str), x ∈ (["self", "a", "level", "value"] : List Str) := loc2_all (by decide +kernel)
abbrev s_Store_known_choice : Stmt := inClass (top 20) 8
theorem sc_Store_known_choice : FnScope ["self", "key", "c", "a", "b"] ["self", "key"] (defScope s_Store_known_choice) := ⟨rfl, rfl, rfl, by decide +kernel, rfl, by decide +kernel, by decide +kernel⟩
theorem lc_Store_known_choice : (∀ x ∈ (["self", "key", "c", "a", "b"] : List Str), Loc2 (defScope s_Store_known_choice) x) ∧ ∀ x ∈ (["self", "key"] : List Str), x ∈ (["self", "key", "c", "a", "b"] : List Str) := loc2_all (by decide +kernel)
abbrev s_Store_choose : Stmt := inClass (top 20) 9
theorem sc_Store_choose : FnScope ["self", "c", "a", "b", "waiting", "key"] ["self", "c", "a", "b"] (defScope s_Store_choose) := ⟨rfl, rfl, rfl, by decide +kernel, rfl, by decide +kernel, by decide +kernel⟩
theorem lc_Store_choose : (∀ x ∈ (["self", "c", "a", "b", "waiting", "key"] : List Str), Loc2 (defScope s_Store_choose) x) ∧ ∀ x ∈ (["self", "c", "a", "b"] : List Str), x ∈ (["self", "c", "a", "b", "waiting", "key"] : List Str) := loc2_all (by decide +kernel)
abbrev s_Store_advance : Stmt := inClass (top 20) 10
theorem sc_Store_advance : FnScope ["self", "waiting", "key", "level", "low", "high", "low_known", "high_known", "one"] ["self", "waiting", "key"] (defScope s_Store_advance) := ⟨rfl, rfl, rfl, by decide +kernel, rfl, by decide +kernel, by decide +kernel⟩
theorem lc_Store_advance : (∀ x ∈ (["self", "waiting", "key", "level", "low", "high", "low_known", "high_known"] : List Str), Loc2 (defScope s_Store_advance) x) ∧ ∀ x ∈ (["self", "waiting", "key"] : List Str), x ∈ (["self", "waiting", "key", "level", "low", "high", "low_known", "high_known"] : List Str) := loc2_all (by decide +kernel)
abbrev s_Store_negate : Stmt := inClass (top 20) 11
theorem sc_Store_negate : FnScope ["self", "a"] ["self", "a"] (defScope s_Store_negate) := ⟨rfl, rfl, rfl, by decide +kernel, rfl, by decide +kernel, by decide +kernel⟩
theorem lc_Store_negate : (∀ x ∈ (["self", "a"] : List Str), Loc2 (defScope s_Store_negate) x) ∧ ∀ x ∈ (["self", "a"] : List Str), x ∈ (["self", "a"] : List Str) := loc2_all (by decide +kernel)
abbrev s_Store_both : Stmt := inClass (top 20) 12
theorem sc_Store_both : FnScope ["self", "a", "b"] ["self", "a", "b"] (defScope s_Store_both) := ⟨rfl, rfl, rfl, by decide +kernel, rfl, by decide +kernel, by decide +kernel⟩
theorem lc_Store_both : (∀ x ∈ (["self", "a", "b"] : List Str), Loc2 (defScope s_Store_both) x) ∧ ∀ x ∈ (["self", "a", "b"] : List Str), x ∈ (["self", "a", "b"] : List Str) := loc2_all (by decide +kernel)
abbrev s_Store_either : Stmt := inClass (top 20) 13
theorem sc_Store_either : FnScope ["self", "a", "b"] ["self", "a", "b"] (defScope s_Store_either) := ⟨rfl, rfl, rfl, by decide +kernel, rfl, by decide +kernel, by decide +kernel⟩
theorem lc_Store_either : (∀ x ∈ (["self", "a", "b"] : List Str), Loc2 (defScope s_Store_either) x) ∧ ∀ x ∈ (["self", "a", "b"] : List Str), x ∈ (["self", "a", "b"] : List Str) := loc2_all (by decide +kernel)
abbrev s_Store_without : Stmt := inClass (top 20) 14
theorem sc_Store_without : FnScope ["self", "a", "b"] ["self", "a", "b"] (defScope s_Store_without) := ⟨rfl, rfl, rfl, by decide +kernel, rfl, by decide +kernel, by decide +kernel⟩
theorem lc_Store_without : (∀ x ∈ (["self", "a", "b"] : List Str), Loc2 (defScope s_Store_without) x) ∧ ∀ x ∈ (["self", "a", "b"] : List Str), x ∈ (["self", "a", "b"] : List Str) := loc2_all (by decide +kernel)
abbrev s_Store_either_of : Stmt := inClass (top 20) 15
theorem sc_Store_either_of : FnScope ["self", "references", "total", "a"] ["self", "references"] (defScope s_Store_either_of) := ⟨rfl, rfl, rfl, by decide +kernel, rfl, by decide +kernel, by decide +kernel⟩
theorem lc_Store_either_of : (∀ x ∈ (["self", "references", "total", "a"] : List Str), Loc2 (defScope s_Store_either_of) x) ∧ ∀ x ∈ (["self", "references"] : List Str), x ∈ (["self", "references", "total", "a"] : List Str) := loc2_all (by decide +kernel)
abbrev s_Store_nodes_below : Stmt := inClass (top 20) 16
theorem sc_Store_nodes_below : FnScope ["self", "a", "found", "waiting", "b"] ["self", "a"] (defScope s_Store_nodes_below) := ⟨rfl, rfl, rfl, by decide +kernel, rfl, by decide +kernel, by decide +kernel⟩
theorem lc_Store_nodes_below : (∀ x ∈ (["self", "a", "found", "waiting", "b"] : List Str), Loc2 (defScope s_Store_nodes_below) x) ∧ ∀ x ∈ (["self", "a"] : List Str), x ∈ (["self", "a", "found", "waiting", "b"] : List Str) := loc2_all (by decide +kernel)
abbrev s_better : Stmt := top 22
theorem sc_better : FnScope ["chance", "other"] ["chance"] (defScope s_better) := ⟨rfl, rfl, rfl, by decide +kernel, rfl, by decide +kernel, by decide +kernel⟩
theorem lc_better : (∀ x ∈ (["chance", "other"] : List Str), Loc2 (defScope s_better) x) ∧ ∀ x ∈ (["chance"] : List Str), x ∈ (["chance", "other"] : List Str) := loc2_all (by decide +kernel)
abbrev s_best_masses : Stmt := top 23
theorem sc_best_masses : FnScope ["store", "a", "chances", "free", "chance", "best", "b", "level", "low", "high"] ["store", "a", "chances"] (defScope s_best_masses) := ⟨rfl, rfl, rfl, by decide +kernel, rfl, by decide +kernel, by decide +kernel⟩
theorem lc_best_masses : (∀ x ∈ (["store", "a", "chances", "free", "chance", "best", "b", "level", "low", "high"] : List Str), Loc2 (defScope s_best_masses) x) ∧ ∀ x ∈ (["store", "a", "chances"] : List Str), x ∈ (["store", "a", "chances", "free", "chance", "best", "b", "level", "low", "high"] : List Str) := loc2_all (by decide +kernel)
abbrev s_side : Stmt := top 24
theorem sc_side : FnScope ["store", "a", "level", "free", "best"] ["store", "a", "level", "free", "best"] (defScope s_side) := ⟨rfl, rfl, rfl, by decide +kernel, rfl, by decide +kernel, by decide +kernel⟩
theorem lc_side : (∀ x ∈ (["store", "a", "level", "free", "best"] : List Str), Loc2 (defScope s_side) x) ∧ ∀ x ∈ (["store", "a", "level", "free", "best"] : List Str), x ∈ (["store", "a", "level", "free", "best"] : List Str) := loc2_all (by decide +kernel)
abbrev s_gap : Stmt := top 25
theorem sc_gap : FnScope ["free", "level", "below"] ["free", "level", "below"] (defScope s_gap) := ⟨rfl, rfl, rfl, by decide +kernel, rfl, by decide +kernel, by decide +kernel⟩
theorem lc_gap : (∀ x ∈ (["free", "level", "below"] : List Str), Loc2 (defScope s_gap) x) ∧ ∀ x ∈ (["free", "level", "below"] : List Str), x ∈ (["free", "level", "below"] : List Str) := loc2_all (by decide +kernel)
abbrev s_least_bits : Stmt := top 26
theorem sc_least_bits : FnScope ["store", "a", "chances", "bits", "level"] ["store", "a", "chances"] (defScope s_least_bits) := ⟨rfl, rfl, rfl, by decide +kernel, rfl, by decide +kernel, by decide +kernel⟩
theorem lc_least_bits : (∀ x ∈ (["store", "a", "chances", "bits", "level"] : List Str), Loc2 (defScope s_least_bits) x) ∧ ∀ x ∈ (["store", "a", "chances"] : List Str), x ∈ (["store", "a", "chances", "bits", "level"] : List Str) := loc2_all (by decide +kernel)
abbrev s_best_bits : Stmt := top 27
theorem sc_best_bits : FnScope ["store", "a", "chances", "free", "best", "bits", "level", "chance", "low", "high"] ["store", "a", "chances", "free", "best"] (defScope s_best_bits) := ⟨rfl, rfl, rfl, by decide +kernel, rfl, by decide +kernel, by decide +kernel⟩
theorem lc_best_bits : (∀ x ∈ (["store", "a", "chances", "free", "best", "bits", "level", "chance", "low", "high"] : List Str), Loc2 (defScope s_best_bits) x) ∧ ∀ x ∈ (["store", "a", "chances", "free", "best"] : List Str), x ∈ (["store", "a", "chances", "free", "best", "bits", "level", "chance", "low", "high"] : List Str) := loc2_all (by decide +kernel)
abbrev s_likeliest : Stmt := top 28
theorem sc_likeliest : FnScope ["store", "a", "chances", "best", "free", "mass"] ["store", "a", "chances"] (defScope s_likeliest) := ⟨rfl, rfl, rfl, by decide +kernel, rfl, by decide +kernel, by decide +kernel⟩
theorem lc_likeliest : (∀ x ∈ (["store", "a", "chances", "best", "free", "mass"] : List Str), Loc2 (defScope s_likeliest) x) ∧ ∀ x ∈ (["store", "a", "chances"] : List Str), x ∈ (["store", "a", "chances", "best", "free", "mass"] : List Str) := loc2_all (by decide +kernel)
abbrev s__law_same : Stmt := top 30
theorem sc__law_same : FnScope ["actual", "due", "k"] ["actual", "due"] (defScope s__law_same) := ⟨rfl, rfl, rfl, by decide +kernel, rfl, by decide +kernel, by decide +kernel⟩
theorem lc__law_same : (∀ x ∈ (["actual", "due", "k"] : List Str), Loc2 (defScope s__law_same) x) ∧ ∀ x ∈ (["actual", "due"] : List Str), x ∈ (["actual", "due", "k"] : List Str) := loc2_all (by decide +kernel)
abbrev s__law_pool : Stmt := top 31
theorem sc__law_pool : FnScope ["script", "salt", "cell"] ["script"] (defScope s__law_pool) := ⟨rfl, rfl, rfl, by decide +kernel, rfl, by decide +kernel, by decide +kernel⟩
theorem lc__law_pool : (∀ x ∈ (["script", "salt", "cell"] : List Str), Loc2 (defScope s__law_pool) x) ∧ ∀ x ∈ (["script"] : List Str), x ∈ (["script", "salt", "cell"] : List Str) := loc2_all (by decide +kernel)
abbrev s__law_spread : Stmt := top 32
theorem sc__law_spread : FnScope ["cell", "mixed", "total", "k"] ["cell"] (defScope s__law_spread) := ⟨rfl, rfl, rfl, by decide +kernel, rfl, by decide +kernel, by decide +kernel⟩
theorem lc__law_spread : (∀ x ∈ (["cell", "mixed", "total", "k"] : List Str), Loc2 (defScope s__law_spread) x) ∧ ∀ x ∈ (["cell"] : List Str), x ∈ (["cell", "mixed", "total", "k"] : List Str) := loc2_all (by decide +kernel)
abbrev s__law_draw : Stmt := top 33
theorem sc__law_draw : FnScope ["pool", "many", "cell", "mixed", "value"] ["pool", "many"] (defScope s__law_draw) := ⟨rfl, rfl, rfl, by decide +kernel, rfl, by decide +kernel, by decide +kernel⟩
theorem lc__law_draw : (∀ x ∈ (["pool", "many", "cell", "mixed", "value"] : List Str), Loc2 (defScope s__law_draw) x) ∧ ∀ x ∈ (["pool", "many"] : List Str), x ∈ (["pool", "many", "cell", "mixed", "value"] : List Str) := loc2_all (by decide +kernel)
abbrev s__law_gcd : Stmt := top 34
theorem sc__law_gcd : FnScope ["a", "b", "k", "rest_v"] ["a", "b"] (defScope s__law_gcd) := ⟨rfl, rfl, rfl, by decide +kernel, rfl, by decide +kernel, by decide +kernel⟩
theorem lc__law_gcd : (∀ x ∈ (["a", "b", "k", "rest_v"] : List Str), Loc2 (defScope s__law_gcd) x) ∧ ∀ x ∈ (["a", "b"] : List Str), x ∈ (["a", "b", "k", "rest_v"] : List Str) := loc2_all (by decide +kernel)
abbrev s__law_frac : Stmt := top 35
theorem sc__law_frac : FnScope ["top", "bottom", "common"] ["top", "bottom"] (defScope s__law_frac) := ⟨rfl, rfl, rfl, by decide +kernel, rfl, by decide +kernel, by decide +kernel⟩
theorem lc__law_frac : (∀ x ∈ (["top", "bottom", "common"] : List Str), Loc2 (defScope s__law_frac) x) ∧ ∀ x ∈ (["top", "bottom"] : List Str), x ∈ (["top", "bottom", "common"] : List Str) := loc2_all (by decide +kernel)
abbrev s__law_coin : Stmt := top 40
theorem sc__law_coin : FnScope ["many", "k", "index"] ["many", "k"] (defScope s__law_coin) := ⟨rfl, rfl, rfl, by decide +kernel, rfl, by decide +kernel, by decide +kernel⟩
theorem lc__law_coin : (∀ x ∈ (["many", "k"] : List Str), Loc2 (defScope s__law_coin) x) ∧ ∀ x ∈ (["many", "k"] : List Str), x ∈ (["many", "k"] : List Str) := loc2_all (by decide +kernel)
abbrev s__law_mixed : Stmt := top 41
theorem sc__law_mixed : FnScope ["test", "first", "second", "k"] ["test", "first", "second"] (defScope s__law_mixed) := ⟨rfl, rfl, rfl, by decide +kernel, rfl, by decide +kernel, by decide +kernel⟩
theorem lc__law_mixed : (∀ x ∈ (["test", "first", "second"] : List Str), Loc2 (defScope s__law_mixed) x) ∧ ∀ x ∈ (["test", "first", "second"] : List Str), x ∈ (["test", "first", "second"] : List Str) := loc2_all (by decide +kernel)
abbrev s__law_halves : Stmt := top 42
theorem sc__law_halves : FnScope ["table", "k", "many", "low", "high", "index"] ["table", "k", "many"] (defScope s__law_halves) := ⟨rfl, rfl, rfl, by decide +kernel, rfl, by decide +kernel, by decide +kernel⟩
theorem lc__law_halves : (∀ x ∈ (["table", "k", "many", "low", "high"] : List Str), Loc2 (defScope s__law_halves) x) ∧ ∀ x ∈ (["table", "k", "many"] : List Str), x ∈ (["table", "k", "many", "low", "high"] : List Str) := loc2_all (by decide +kernel)
abbrev s__law_needs : Stmt := top 43
theorem sc__law_needs : FnScope ["table", "many", "found", "k", "pair"] ["table", "many"] (defScope s__law_needs) := ⟨rfl, rfl, rfl, by decide +kernel, rfl, by decide +kernel, by decide +kernel⟩
theorem lc__law_needs : (∀ x ∈ (["table", "many", "found", "k", "pair"] : List Str), Loc2 (defScope s__law_needs) x) ∧ ∀ x ∈ (["table", "many"] : List Str), x ∈ (["table", "many", "found", "k", "pair"] : List Str) := loc2_all (by decide +kernel)
abbrev s__law_deed : Stmt := top 44
theorem sc__law_deed : FnScope ["pool", "store", "refs", "tables", "levels", "many", "turn", "at", "a", "b", "one", "two", "none", "whole", "rows", "total", "k", "fit", "low", "high", "j", "n"] ["pool", "store", "refs", "tables", "levels"] (defScope s__law_deed) := ⟨rfl, rfl, rfl, by decide +kernel, rfl, by decide +kernel, by decide +kernel⟩
theorem lc__law_deed : (∀ x ∈ (["pool", "store", "refs", "tables", "levels", "many", "turn", "at", "a", "b", "one", "two", "none", "whole", "rows", "total", "k", "fit", "low", "high"] : List Str), Loc2 (defScope s__law_deed) x) ∧ ∀ x ∈ (["pool", "store", "refs", "tables", "levels"] : List Str), x ∈ (["pool", "store", "refs", "tables", "levels", "many", "turn", "at", "a", "b", "one", "two", "none", "whole", "rows", "total", "k", "fit", "low", "high"] : List Str) := loc2_all (by decide +kernel)
abbrev s__law_made : Stmt := top 45
theorem sc__law_made : FnScope ["pool", "store", "levels", "most", "size", "refs", "tables", "k", "pair"] ["pool", "store", "levels", "most"] (defScope s__law_made) := ⟨rfl, rfl, rfl, by decide +kernel, rfl, by decide +kernel, by decide +kernel⟩
theorem lc__law_made : (∀ x ∈ (["pool", "store", "levels", "most", "size", "refs", "tables", "k", "pair"] : List Str), Loc2 (defScope s__law_made) x) ∧ ∀ x ∈ (["pool", "store", "levels", "most"] : List Str), x ∈ (["pool", "store", "levels", "most", "size", "refs", "tables", "k", "pair"] : List Str) := loc2_all (by decide +kernel)
abbrev s__law_chances : Stmt := top 46
theorem sc__law_chances : FnScope ["pool", "many", "found", "k", "bottom"] ["pool", "many"] (defScope s__law_chances) := ⟨rfl, rfl, rfl, by decide +kernel, rfl, by decide +kernel, by decide +kernel⟩
theorem lc__law_chances : (∀ x ∈ (["pool", "many", "found", "k", "bottom"] : List Str), Loc2 (defScope s__law_chances) x) ∧ ∀ x ∈ (["pool", "many"] : List Str), x ∈ (["pool", "many", "found", "k", "bottom"] : List Str) := loc2_all (by decide +kernel)
abbrev s__law_mass : Stmt := top 47
theorem sc__law_mass : FnScope ["index", "chances", "top", "bottom", "k", "one"] ["index", "chances"] (defScope s__law_mass) := ⟨rfl, rfl, rfl, by decide +kernel, rfl, by decide +kernel, by decide +kernel⟩
theorem lc__law_mass : (∀ x ∈ (["index", "chances", "top", "bottom", "k", "one"] : List Str), Loc2 (defScope s__law_mass) x) ∧ ∀ x ∈ (["index", "chances"] : List Str), x ∈ (["index", "chances", "top", "bottom", "k", "one"] : List Str) := loc2_all (by decide +kernel)
abbrev s__law_best : Stmt := top 49
theorem sc__law_best : FnScope ["table", "chances", "many", "total", "best", "turn", "bits", "index", "mass", "k"] ["table", "chances", "many"] (defScope s__law_best) := ⟨rfl, rfl, rfl, by decide +kernel, rfl, by decide +kernel, by decide +kernel⟩
theorem lc__law_best : (∀ x ∈ (["table", "chances", "many", "total", "best", "turn", "bits", "index", "mass"] : List Str), Loc2 (defScope s__law_best) x) ∧ ∀ x ∈ (["table", "chances", "many"] : List Str), x ∈ (["table", "chances", "many", "total", "best", "turn", "bits", "index", "mass"] : List Str) := loc2_all (by decide +kernel)
abbrev s_law : Stmt := top 50
theorem sc_law : FnScope ["script", "pool", "many", "store", "made", "chances", "k", "due", "raised", "told", "one"] ["script"] (defScope s_law) := ⟨rfl, rfl, rfl, by decide +kernel, rfl, by decide +kernel, by decide +kernel⟩
theorem lc_law : (∀ x ∈ (["script", "pool", "many", "store", "made", "chances", "k", "due", "raised", "told"] : List Str), Loc2 (defScope s_law) x) ∧ ∀ x ∈ (["script"] : List Str), x ∈ (["script", "pool", "many", "store", "made", "chances", "k", "due", "raised", "told"] : List Str) := loc2_all (by decide +kernel)
section
/-! ### the store -/
structure Sto where
  N : List (Nat × Nat × Nat)
  C : List ((Nat × Nat × Nat) × Nat)
def k3 (x : Nat × Nat × Nat) : List Key := [.inl (x.1 : Int), .inl (x.2.1 : Int), .inl (x.2.2 : Int)]
theorem k3_inj {x y : Nat × Nat × Nat} (h : k3 x = k3 y) : x = y := by
  obtain ⟨a, b, c⟩ := x
  obtain ⟨d, e, f⟩ := y
  unfold k3 at h
  simp only [List.cons.injEq, Sum.inl.injEq, and_true] at h
  obtain ⟨h1, h2, h3⟩ := h
  congr 1
  · omega
  · congr 1 <;> omega
def ndG : Nat → List (Nat × Nat × Nat) → List (List Key × A)
  | _, [] => []
  | j, x :: r => (k3 x, A.i ((j + 2 : Nat) : Int)) :: ndG (j + 1) r
def ndD (N : List (Nat × Nat × Nat)) : List (List Key × A) := ndG 0 N
theorem lkA_cons {κ α : Type} [DecidableEq κ] (p : κ × α) (r : List (κ × α)) (k : κ) : lkA (p :: r) k = if p.1 = k then some p.2 else lkA r k := by
  unfold lkA
  rw [List.find?_cons]
  by_cases h : p.1 = k <;> simp [h]
theorem ndG_lk (x : Nat × Nat × Nat) : ∀ (N : List (Nat × Nat × Nat)) (j : Nat), lkA (ndG j N) (k3 x) = if x ∈ N then some (A.i ((j + N.idxOf x + 2 : Nat) : Int)) else none
  | [], j => by simp [ndG, lkA]
  | y :: r, j => by
    rw [ndG, lkA_cons, ndG_lk x r (j + 1), List.idxOf_cons]
    by_cases h : y = x
    · subst h
      rw [if_pos rfl, if_pos List.mem_cons_self]
      simp
    · have h1 : ¬ k3 y = k3 x := fun e => h (k3_inj e)
      rw [if_neg h1, show (y == x) = false from beq_eq_false_iff_ne.mpr h]
      by_cases h2 : x ∈ r
      · rw [if_pos h2, if_pos (List.mem_cons_of_mem _ h2)]
        show some (A.i ((j + 1 + r.idxOf x + 2 : Nat) : Int)) = some (A.i ((j + (r.idxOf x + 1) + 2 : Nat) : Int))
        rw [show j + 1 + r.idxOf x + 2 = j + (r.idxOf x + 1) + 2 by omega]
      · rw [if_neg h2, if_neg (fun z => (List.mem_cons.mp z).elim (fun q => h q.symm) h2)]
theorem ndG_append (x : Nat × Nat × Nat) : ∀ (N : List (Nat × Nat × Nat)) (j : Nat), ndG j (N ++ [x]) = ndG j N ++ [(k3 x, A.i ((j + N.length + 2 : Nat) : Int))]
  | [], j => rfl
  | y :: r, j => by
    rw [List.cons_append, ndG, ndG_append x r (j + 1), ndG, List.cons_append, List.length_cons, show j + 1 + r.length + 2 = j + (r.length + 1) + 2 by omega]
theorem ndG_len : ∀ (N : List (Nat × Nat × Nat)) (j : Nat), (ndG j N).length = N.length
  | [], _ => rfl
  | y :: r, j => by rw [ndG, List.length_cons, List.length_cons, ndG_len r]
theorem putA_new {κ α : Type} [DecidableEq κ] {kvs : List (κ × α)} {k : κ} (v : α) (h : lkA kvs k = none) : putA kvs k v = kvs ++ [(k, v)] := by
  unfold putA
  rw [lkA_any, h]; rfl
/-- a node made or found -/
def nodeN (N : List (Nat × Nat × Nat)) (x : Nat × Nat × Nat) : List (Nat × Nat × Nat) × Nat :=
  if x.2.1 = x.2.2 then (N, x.2.1) else if x ∈ N then (N, N.idxOf x + 2) else (N ++ [x], N.length + 2)
def chD (C : List ((Nat × Nat × Nat) × Nat)) : List (List Key × A) := C.map fun e => (k3 e.1, A.i (e.2 : Int))
structure Sad where
  s : Addr
  lv : Addr
  lo : Addr
  hi : Addr
  nd : Addr
  ch : Addr
def stF (a : Sad) : List (Str × A) := [("_levels", .ptr a.lv), ("_lows", .ptr a.lo), ("_highs", .ptr a.hi), ("_nodes", .ptr a.nd), ("_chosen", .ptr a.ch)]
def Sto.lvs (S : Sto) : List A := S.N.map fun x => A.i (x.1 : Int)
def Sto.los (S : Sto) : List A := S.N.map fun x => A.i (x.2.1 : Int)
def Sto.his (S : Sto) : List A := S.N.map fun x => A.i (x.2.2 : Int)
abbrev Sto.rs (C : Addr) (a : Sad) (S : Sto) : RL := [(a.s, .ins C (stF a)), (a.lv, .lst S.lvs), (a.lo, .lst S.los), (a.hi, .lst S.his), (a.nd, .dT (ndD S.N)), (a.ch, .dT (chD S.C))]
theorem stF_lv (a : Sad) : (stF a).lookup ("_levels" : Str) = some (.ptr a.lv) := rfl
theorem stF_lo (a : Sad) : (stF a).lookup ("_lows" : Str) = some (.ptr a.lo) := rfl
theorem stF_hi (a : Sad) : (stF a).lookup ("_highs" : Str) = some (.ptr a.hi) := rfl
theorem stF_nd (a : Sad) : (stF a).lookup ("_nodes" : Str) = some (.ptr a.nd) := rfl
theorem stF_ch (a : Sad) : (stF a).lookup ("_chosen" : Str) = some (.ptr a.ch) := rfl
local macro_rules | `(tactic| walk_at "flk") => `(tactic| first | exact stF_lv _ | exact stF_lo _ | exact stF_hi _ | exact stF_nd _ | exact stF_ch _)
local macro_rules | `(tactic| walk_at "len") => `(tactic| first | omega | (simp only [Sto.lvs, Sto.los, Sto.his, List.length_map, ndD, ndG_len, chD, List.length_append, List.length_cons, List.length_nil]; omega))
/-- the class's facts -/
structure StoC (K : PySem.W.Frag) (mg : Str → Option Value) (C : Addr) : Prop where
  cls : Cls K C
  nlv : NoAttr K C "_levels"
  nlo : NoAttr K C "_lows"
  nhi : NoAttr K C "_highs"
  nnd : NoAttr K C "_nodes"
  nch : NoAttr K C "_chosen"
  cF : Cst K mg "FALSE" (.int 0)
  cT : Cst K mg "TRUE" (.int 1)
section
variable {P : Program} {w : World} {K : PySem.W.Frag} {mg : Str → Option Value} {base : Heap} {C : Addr}
def spStInit (C : Addr) : ASp := fun xs R post _ => ∃ p, xs = [.ptr p] ∧ R = [(p, .ins C [])] ∧ ∀ a : Sad, a.s = p → post .n (Sto.rs C a ⟨[], []⟩)
theorem mon_stInit (C : Addr) : Mon (spStInit C) := fun xs R p p' e e' h _ ⟨a, h1, h2, k⟩ => ⟨a, h1, h2, fun x hx => h _ _ (k x hx)⟩
theorem c_Store_init (d : Di K mg "Store" C "Store.__init__" s_Store___init__ ["self"]) (T : StoC K mg C) : Kcal P w K mg base 1 "Store" C ["self"] (spStInit C) := d.cal (mon_stInit C) fun f fd F => by
  obtain ⟨tc, t1, t2, t3, t4, t5, _, _⟩ := T
  refine okA F sc_Store___init__ lc_Store___init__ (fun xs R q e h => ?_) ?_
  · obtain ⟨p, rfl, _⟩ := h; rfl
  rintro X hX hU hr ⟨cdv, Ar, outer, s, H, E, rfl⟩ xs R post exc ⟨p, rfl, rfl, k⟩
  show ASs _ _ (defBody s_Store___init__) [("self", some (.ptr p))] _ _
  walk_at "go"
  refine ae_dnewT fun nd => ?_
  walk_at "go"
  refine ae_dnewT fun ch => ?_
  walk_at "go"
  exact ⟨_, Le.cons (.there (.there (.there (.there (.there .here))))) (Le.cons (.there (.there (.there (.there .here)))) (Le.cons (.there (.there (.there .here))) (Le.cons (.there (.there .here)) (Le.cons (.there .here) (Le.cons .here (Le.nil _)))))), k ⟨p, _, _, _, nd, ch⟩ rfl⟩
def Sto.small (S : Sto) : Prop := S.N.length + 10 < sizeLine ∧ S.C.length + 10 < sizeLine
def spNode (C : Addr) : ASp := fun xs R post _ => ∃ (a : Sad) (S : Sto) (l lo hi : Nat), xs = [.ptr a.s, .i l, .i lo, .i hi] ∧ R = Sto.rs C a S ∧ S.small ∧ post (.i (nodeN S.N (l, lo, hi)).2) (Sto.rs C a ⟨(nodeN S.N (l, lo, hi)).1, S.C⟩)
theorem mon_node (C : Addr) : Mon (spNode C) := fun xs R p p' e e' h _ ⟨a, S, l, lo, hi, h1, h2, h3, k⟩ => ⟨a, S, l, lo, hi, h1, h2, h3, h _ _ k⟩
theorem c_Store_node (d : Dm K C "node" "Store.node" s_Store_node ["self", "level", "low", "high"]) (B : Blt mg) (T : StoC K mg C) : Mcal P w K mg base 1 C "node" ["self", "level", "low", "high"] (spNode C) := d.cal (mon_node C) fun f fd F => by
  obtain ⟨tc, t1, t2, t3, t4, t5, _, _⟩ := T
  have bLen := B.len
  refine okA F sc_Store_node lc_Store_node (fun xs R q e h => ?_) ?_
  · obtain ⟨p, S, l, lo, hi, rfl, _⟩ := h; rfl
  rintro X hX hU hr ⟨cdv, Ar, outer, s, H, E, rfl⟩ xs R post exc ⟨a, S, l, lo, hi, rfl, rfl, hS, k⟩
  show ASs _ _ (defBody s_Store_node) [("self", some (.ptr a.s)), ("level", some (.i l)), ("low", some (.i lo)), ("high", some (.i hi)), ("key", none)] _ _
  walk_at "go"
  refine ⟨fun h => ?_, fun h => ?_⟩
  · have e : lo = hi := by have := of_decide_eq_true h; omega
    subst e
    walk_at "go"
    refine ⟨_, Le.refl _, ?_⟩
    have := k
    unfold nodeN at this
    rwa [if_pos rfl] at this
  · have e : ¬ lo = hi := by have := of_decide_eq_false h; omega
    unfold nodeN at k
    rw [if_neg e] at k
    refine as_nil ?_
    walk_at "as"
    walk_at "as"
    refine ae_tupK ?_
    walk_at "go"
    refine ⟨k3 (l, lo, hi), rfl, of_decide_eq_true rfl, ?_⟩
    walk_at "go"
    rw [show ndD S.N = ndG 0 S.N from rfl, ndG_lk]
    obtain ⟨s1, s2⟩ := hS
    refine ⟨fun h => ?_, fun h => ?_⟩
    · have hx : ¬ (l, lo, hi) ∈ S.N := fun z => by rw [if_pos z] at h; cases h
      rw [if_neg hx] at k
      have hn : lkA (ndD S.N) (k3 (l, lo, hi)) = none := by
        show lkA (ndG 0 S.N) _ = none
        rw [ndG_lk, if_neg hx]
      walk_at "go"
      · rw [putA_new _ hn]
        have e : ndD S.N ++ [(k3 (l, lo, hi), A.i (((S.lvs ++ [A.i (l : Int)]).length : Int) + 1))] = ndG 0 (S.N ++ [(l, lo, hi)]) := by
          rw [ndG_append]
          congr 4
          simp only [Sto.lvs, List.length_append, List.length_map, List.length_cons, List.length_nil]
          omega
        rw [e, ndG_lk, if_pos (by simp)]
      refine ⟨_, Le.refl _, ?_⟩
      have e1 : (0 + (S.N ++ [(l, lo, hi)]).idxOf (l, lo, hi) + 2 : Nat) = S.N.length + 2 := by
        rw [List.idxOf_append, if_neg hx]
        simp
      rw [e1]
      have e2 : putA (ndD S.N) (k3 (l, lo, hi)) (A.i (((S.lvs ++ [A.i (l : Int)]).length : Int) + 1)) = ndD (S.N ++ [(l, lo, hi)]) := by
        rw [putA_new _ hn]
        show _ = ndG 0 (S.N ++ [(l, lo, hi)])
        rw [ndG_append]
        congr 4
        simp only [Sto.lvs, List.length_append, List.length_map, List.length_cons, List.length_nil]
        omega
      have k' := k
      simp only [Sto.rs, Sto.lvs, Sto.los, Sto.his, List.map_append, List.map_cons, List.map_nil] at k' ⊢
      simp only [Sto.lvs] at e2
      rw [e2]
      exact k'
    · have hx : (l, lo, hi) ∈ S.N := Classical.byContradiction fun z => by rw [if_neg z] at h; cases h
      rw [if_pos hx] at k
      walk_at "go"
      · show lkA (ndG 0 S.N) _ = _
        rw [ndG_lk, if_pos hx]
      refine ⟨_, Le.refl _, ?_⟩
      rw [Nat.zero_add]
      exact k
end

/-! ### nodes -/
/-- the level, low, high of a reference -/
def lvN (N : List (Nat × Nat × Nat)) (a : Nat) : Nat := (N.getD (a - 2) (0, 0, 0)).1
def loN (N : List (Nat × Nat × Nat)) (a : Nat) : Nat := (N.getD (a - 2) (0, 0, 0)).2.1
def hiN (N : List (Nat × Nat × Nat)) (a : Nat) : Nat := (N.getD (a - 2) (0, 0, 0)).2.2
theorem fld_at {N : List (Nat × Nat × Nat)} {a : Nat} (f : Nat × Nat × Nat → Nat) (h2 : 2 ≤ a) (h : a < N.length + 2) : atI (N.map fun x => A.i (f x : Int)) ((a : Int) - 2) = some (A.i (f (N.getD (a - 2) (0, 0, 0)) : Int)) := by
  have e : ((a : Int) - 2) = ((a - 2 : Nat) : Int) := by omega
  have h3 : a - 2 < N.length := by omega
  rw [e]
  refine atI_nat ?_
  rw [List.getElem?_map, List.getD_eq_getElem?_getD, List.getElem?_eq_getElem h3]; rfl
theorem lvs_at {S : Sto} {a : Nat} (h2 : 2 ≤ a) (h : a < S.N.length + 2) : atI S.lvs ((a : Int) - 2) = some (A.i (lvN S.N a : Int)) := fld_at (·.1) h2 h
theorem los_at {S : Sto} {a : Nat} (h2 : 2 ≤ a) (h : a < S.N.length + 2) : atI S.los ((a : Int) - 2) = some (A.i (loN S.N a : Int)) := fld_at (·.2.1) h2 h
theorem his_at {S : Sto} {a : Nat} (h2 : 2 ≤ a) (h : a < S.N.length + 2) : atI S.his ((a : Int) - 2) = some (A.i (hiN S.N a : Int)) := fld_at (·.2.2) h2 h
abbrev K3 := Nat × Nat × Nat
/-- a store and one thing more -/
abbrev Sto.rx (C : Addr) (a : Sad) (S : Sto) (l : RL) : RL := (a.s, .ins C (stF a)) :: (a.lv, .lst S.lvs) :: (a.lo, .lst S.los) :: (a.hi, .lst S.his) :: (a.nd, .dT (ndD S.N)) :: (a.ch, .dT (chD S.C)) :: l

/-! ### the store: levels, parts, choices -/
section
variable {P : Program} {w : World} {K : PySem.W.Frag} {mg : Str → Option Value} {base : Heap} {C : Addr}
local macro_rules | `(tactic| walk_at "ixl") => `(tactic| first | rfl | (refine lvs_at ?_ ?_ <;> omega) | (refine los_at ?_ ?_ <;> omega) | (refine his_at ?_ ?_ <;> omega))
def topG (N : List (Nat × Nat × Nat)) (x : A) : Option A := match x with
  | .d (.int n) => if 2 ≤ n then some (.i (lvN N n.toNat)) else none
  | _ => none
theorem topG_i (N : List (Nat × Nat × Nat)) (n : Nat) : topG N (.i n) = if 2 ≤ n then some (.i (lvN N n)) else none := by
  show (if (2 : Int) ≤ (n : Int) then some (A.i (lvN N n : Int)) else none) = _
  by_cases h : 2 ≤ n
  · rw [if_pos h, if_pos (by omega)]
  · rw [if_neg h, if_neg (by omega)]
theorem topG_eq (N : List (Nat × Nat × Nat)) (a b c : Nat) : ((k3 (a, b, c)).map kA).filterMap (topG N) = (([a, b, c].filter (2 ≤ ·)).map fun n : Nat => (lvN N n : Int)).map A.i := by
  have e : (k3 (a, b, c)).map kA = [a, b, c].map fun n : Nat => A.i (n : Int) := rfl
  rw [e]
  have : ∀ l : List Nat, (l.map fun n : Nat => A.i (n : Int)).filterMap (topG N) = ((l.filter (2 ≤ ·)).map fun n : Nat => (lvN N n : Int)).map A.i := by
   intro l
   induction l with
    | nil => rfl
    | cons x r ih =>
      rw [List.map_cons]
      by_cases h : 2 ≤ x
      · rw [List.filterMap_cons_some (b := A.i (lvN N x)) (by rw [topG_i, if_pos h]), List.filter_cons_of_pos (by simpa using h), ih]; rfl
      · rw [List.filterMap_cons_none (by rw [topG_i, if_neg h]), List.filter_cons_of_neg (by simpa using h), ih]
  exact this _
def spTop (C : Addr) : ASp := fun xs R post _ => ∃ (a : Sad) (S : Sto) (k : Nat × Nat × Nat), xs = [.ptr a.s, .tk (k3 k)] ∧ R = Sto.rs C a S ∧ k.1 < S.N.length + 2 ∧ k.2.1 < S.N.length + 2 ∧ k.2.2 < S.N.length + 2 ∧ 2 ≤ k.1 ∧
  ∀ m : Nat, (m = lvN S.N k.1 ∨ (2 ≤ k.2.1 ∧ m = lvN S.N k.2.1) ∨ (2 ≤ k.2.2 ∧ m = lvN S.N k.2.2)) → m ≤ lvN S.N k.1 → (2 ≤ k.2.1 → m ≤ lvN S.N k.2.1) → (2 ≤ k.2.2 → m ≤ lvN S.N k.2.2) → post (.i m) (Sto.rs C a S)
theorem mon_top (C : Addr) : Mon (spTop C) := fun xs R p p' e e' h _ ⟨a, S, k, h1, h2, h3, h4, h5, h6, q⟩ => ⟨a, S, k, h1, h2, h3, h4, h5, h6, fun m q1 q2 q3 q4 => h _ _ (q m q1 q2 q3 q4)⟩
theorem c_Store_top_level (d : Dm K C "top_level" "Store.top_level" s_Store_top_level ["self", "references"]) (bMin : mg "min" = none) (T : StoC K mg C) : Mcal P w K mg base 1 C "top_level" ["self", "references"] (spTop C) := d.cal (mon_top C) fun f fd F => by
  obtain ⟨tc, t1, t2, t3, t4, t5, _, _⟩ := T
  refine okA F sc_Store_top_level lc_Store_top_level (fun xs R q e h => ?_) ?_
  · obtain ⟨a, S, k, rfl, _⟩ := h; rfl
  rintro X hX hU hr ⟨cdv, Ar, outer, s, H, E, rfl⟩ xs R post exc ⟨a, S, ⟨k0, k1, k2⟩, rfl, rfl, h1, h2, h3, h4, kont⟩
  show ASs _ _ (defBody s_Store_top_level) [("self", some (.ptr a.s)), ("references", some (.tk (k3 (k0, k1, k2)))), ("a", none)] _ _
  walk_at "go"
  refine ae_lc [("a", 2)] [("self", some (.ptr a.s)), ("references", none), ("a", none)] _ hX (blkOk_cx (by decide +kernel)) (.keep (by decide) (bx_vis (by decide +kernel)) (.drop (.drop .nil))) (lc_fm (i := 2) (topG S.N) ((k3 (k0, k1, k2)).map kA) (Sto.rs C a S) hX rfl (by decide) (by decide +kernel) (by decide +kernel) ?_)
  refine ai_tk ?_
  walk_at "go"
  refine ⟨_, rfl, rfl, Le.refl _, (show 3 < sizeLine by decide), fun _ _ => trivial, fun D acc c hc => ?_, fun D => ?_⟩
  · have : ∃ n : Nat, c = .i n ∧ n < S.N.length + 2 := by
      simp only [k3, List.map_cons, List.map_nil, List.mem_cons, List.not_mem_nil, or_false] at hc
      rcases hc with rfl | rfl | rfl
      · exact ⟨k0, rfl, h1⟩
      · exact ⟨k1, rfl, h2⟩
      · exact ⟨k2, rfl, h3⟩
    obtain ⟨n, rfl, hn⟩ := this
    refine ⟨_, .there (.there .here), fun X' hx' => ?_⟩
    obtain ⟨s', H', C', cl', fp', rfl⟩ := hx'
    show AT _ _ _ _ _ _
    walk_at "go"
    refine ⟨fun hb => ?_, fun hb => ?_⟩
    · have hb := of_decide_eq_true hb
      have hn2 : 2 ≤ n := by omega
      rintro X' ⟨s', H', C', cl', fp', rfl⟩
      walk_at "go"
      refine ⟨if_pos (show (2 : Int) ≤ (n : Int) by omega), _, .here, Le.refl _⟩
    · have hb := of_decide_eq_false hb
      have hn2 : ¬ 2 ≤ (n : Int) := by omega
      exact ⟨if_neg hn2, _, .here, Le.refl _⟩
  · rw [topG_eq]
    walk_at "go"
    refine ca_min_lst rfl .here ?_ fun m hm hle => ?_
    · rw [List.length_map, List.filter_cons_of_pos (by simpa using h4)]; simp
    · obtain ⟨n, hn, rfl⟩ := List.mem_map.mp hm
      obtain ⟨hn, hn2⟩ := List.mem_filter.mp hn
      have hn2 : 2 ≤ n := of_decide_eq_true hn2
      have le : ∀ j, j ∈ [k0, k1, k2] → 2 ≤ j → lvN S.N n ≤ lvN S.N j := fun j hj h2 => by
        have := hle _ (List.mem_map.mpr ⟨j, List.mem_filter.mpr ⟨hj, decide_eq_true h2⟩, rfl⟩)
        omega
      refine ⟨_, Le.drop, kont _ ?_ (le k0 (by simp) h4) (fun z => le k1 (by simp) z) (fun z => le k2 (by simp) z)⟩
      simp only [List.mem_cons, List.not_mem_nil, or_false] at hn
      rcases hn with rfl | rfl | rfl
      · exact .inl rfl
      · exact .inr (.inl ⟨hn2, rfl⟩)
      · exact .inr (.inr ⟨hn2, rfl⟩)
/-- a cofactor -/
def partN (N : List (Nat × Nat × Nat)) (l : Nat) (v : Bool) (a : Nat) : Nat := if a < 2 then a else if lvN N a = l then (if v then hiN N a else loN N a) else a
def spPart (C : Addr) : ASp := fun xs R post _ => ∃ (a : Sad) (S : Sto) (n l : Nat) (v : Bool), xs = [.ptr a.s, .i n, .i l, .b v] ∧ R = Sto.rs C a S ∧ n < S.N.length + 2 ∧ post (.i (partN S.N l v n)) (Sto.rs C a S)
theorem mon_part (C : Addr) : Mon (spPart C) := fun xs R p p' e e' h _ ⟨a, S, n, l, v, h1, h2, h3, q⟩ => ⟨a, S, n, l, v, h1, h2, h3, h _ _ q⟩
theorem c_Store_part (d : Dm K C "part" "Store.part" s_Store_part ["self", "a", "level", "value"]) (T : StoC K mg C) : Mcal P w K mg base 1 C "part" ["self", "a", "level", "value"] (spPart C) := d.cal (mon_part C) fun f fd F => by
  obtain ⟨tc, t1, t2, t3, t4, t5, _, _⟩ := T
  refine okA F sc_Store_part lc_Store_part (fun xs R q e h => ?_) ?_
  · obtain ⟨a, S, n, l, v, rfl, _⟩ := h; rfl
  rintro X hX hU hr ⟨cdv, Ar, outer, s, H, E, rfl⟩ xs R post exc ⟨a, S, n, l, v, rfl, rfl, hn, kont⟩
  unfold partN at kont
  show ASs _ _ (defBody s_Store_part) [("self", some (.ptr a.s)), ("a", some (.i n)), ("level", some (.i l)), ("value", some (.b v))] _ _
  by_cases h1 : n < 2
  · rw [if_pos h1] at kont
    walk_at "auto"
    exact ⟨_, Le.refl _, kont⟩
  rw [if_neg h1] at kont
  by_cases h2 : lvN S.N n = l
  · rw [if_pos h2] at kont
    walk_at "auto"
    refine ⟨fun h3 => ?_, fun h3 => ?_⟩
    · have h3 : v = true := h3
      subst h3
      walk_at "auto"
      exact ⟨_, Le.refl _, kont⟩
    · have h3 : v = false := h3
      subst h3
      walk_at "auto"
      exact ⟨_, Le.refl _, kont⟩
  · rw [if_neg h2] at kont
    walk_at "auto"
    exact ⟨_, Le.refl _, kont⟩
def chL (M : List (K3 × Nat)) (k : K3) : Option Nat := (M.find? fun e => e.1 = k).map (·.2)
theorem chD_lk (M : List (K3 × Nat)) (k : K3) : lkA (chD M) (k3 k) = (chL M k).map fun n : Nat => A.i (n : Int) := by
  induction M with
  | nil => rfl
  | cons e r ih =>
    show lkA ((k3 e.1, A.i (e.2 : Int)) :: chD r) (k3 k) = _
    rw [lkA_cons, ih]
    unfold chL
    by_cases h : e.1 = k
    · rw [if_pos (by show k3 e.1 = k3 k; rw [h]), List.find?_cons_of_pos (by simpa using h)]; rfl
    · rw [if_neg (fun z => h (k3_inj z)), List.find?_cons_of_neg (by simpa using h)]
def kcN (M : List (K3 × Nat)) (k : K3) : Option Nat := if k.1 = 1 ∨ k.2.1 = k.2.2 then some k.2.1 else if k.1 = 0 then some k.2.2 else if k.2.1 = 1 ∧ k.2.2 = 0 then some k.1 else chL M k
def onA (o : Option Nat) : A := match o with
  | some n => .i (n : Int)
  | none => .i (-1)
def spKnown (C : Addr) : ASp := fun xs R post _ => ∃ (a : Sad) (S : Sto) (k : K3), xs = [.ptr a.s, .tk (k3 k)] ∧ R = Sto.rs C a S ∧ post (onA (kcN S.C k)) (Sto.rs C a S)
theorem mon_known (C : Addr) : Mon (spKnown C) := fun xs R p p' e e' h _ ⟨a, S, k, h1, h2, q⟩ => ⟨a, S, k, h1, h2, h _ _ q⟩
theorem c_Store_known_choice (d : Dm K C "known_choice" "Store.known_choice" s_Store_known_choice ["self", "key"]) (T : StoC K mg C) (cU : Cst K mg "UNKNOWN" (.int (-1))) : Mcal P w K mg base 1 C "known_choice" ["self", "key"] (spKnown C) := d.cal (mon_known C) fun f fd F => by
  obtain ⟨tc, t1, t2, t3, t4, t5, cF, cT⟩ := T
  refine okA F sc_Store_known_choice lc_Store_known_choice (fun xs R q e h => ?_) ?_
  · obtain ⟨a, S, k, rfl, _⟩ := h; rfl
  rintro X hX hU hr ⟨cdv, Ar, outer, s, H, E, rfl⟩ xs R post exc ⟨a, S, ⟨k0, k1, k2⟩, rfl, rfl, kont⟩
  unfold kcN at kont
  show ASs _ _ (defBody s_Store_known_choice) [("self", some (.ptr a.s)), ("key", some (.tk (k3 (k0, k1, k2)))), ("c", none), ("a", none), ("b", none)] _ _
  walk_at "go"
  refine ag_tupK hX ?_
  show AGs _ _ _ [A.i (k0 : Int), A.i (k1 : Int), A.i (k2 : Int)] _ _ _
  by_cases e1 : k0 = 1
  · rw [if_pos (.inl e1)] at kont
    walk_at "auto"
    exact ⟨_, Le.refl _, kont⟩
  by_cases e2 : k1 = k2
  · rw [if_pos (.inr e2)] at kont
    walk_at "auto"
    exact ⟨_, Le.refl _, kont⟩
  rw [if_neg (fun z => z.elim e1 e2)] at kont
  by_cases e3 : k0 = 0
  · rw [if_pos e3] at kont
    walk_at "auto"
    exact ⟨_, Le.refl _, kont⟩
  rw [if_neg e3] at kont
  have fin : (¬ (k1 = 1 ∧ k2 = 0)) → post ((lkA (chD S.C) (k3 (k0, k1, k2))).getD (A.i (-1))) (Sto.rs C a S) := fun hn => by
    rw [if_neg hn] at kont
    rw [chD_lk]
    cases hc : chL S.C (k0, k1, k2) with
    | none => rw [hc] at kont; exact kont
    | some n => rw [hc] at kont; exact kont
  by_cases e4 : k1 = 1
  · by_cases e5 : k2 = 0
    · rw [if_pos ⟨e4, e5⟩] at kont
      walk_at "auto"
      exact ⟨_, Le.refl _, kont⟩
    · walk_at "auto"
      refine ae_dget2T hU ⟨rfl, rfl, rfl, rfl⟩ ?_
      walk_at "auto"
      refine ⟨_, _, _, rfl, .there (.there (.there (.there (.there .here)))), ?_⟩
      walk_at "auto"
      refine ⟨_, rfl, ?_⟩
      walk_at "auto"
      exact ⟨_, _, .there (.there (.there (.there (.there .here)))), _, Le.refl _, fin (fun z => e5 z.2)⟩
  · walk_at "auto"
    refine ae_dget2T hU ⟨rfl, rfl, rfl, rfl⟩ ?_
    walk_at "auto"
    refine ⟨_, _, _, rfl, .there (.there (.there (.there (.there .here)))), ?_⟩
    walk_at "auto"
    refine ⟨_, rfl, ?_⟩
    walk_at "auto"
    exact ⟨_, _, .there (.there (.there (.there (.there .here)))), _, Le.refl _, fin (fun z => e4 z.1)⟩
end

/-! ### the store: advance, choose -/
section
variable {P : Program} {w : World} {K : PySem.W.Frag} {mg : Str → Option Value} {base : Heap} {C : Addr}
abbrev StoW (C : Addr) (a : Sad) (S : Sto) (p : Addr) (r : Res) : RL := [(a.s, .ins C (stF a)), (a.lv, .lst S.lvs), (a.lo, .lst S.los), (a.hi, .lst S.his), (a.nd, .dT (ndD S.N)), (a.ch, .dT (chD S.C)), (p, r)]
def topN (N : List K3) (k : K3) : Nat :=
  min (lvN N k.1) (min (if 2 ≤ k.2.1 then lvN N k.2.1 else lvN N k.1) (if 2 ≤ k.2.2 then lvN N k.2.2 else lvN N k.1))
theorem topN_is {N : List K3} {k : K3} {m : Nat} (h : m = lvN N k.1 ∨ (2 ≤ k.2.1 ∧ m = lvN N k.2.1) ∨ (2 ≤ k.2.2 ∧ m = lvN N k.2.2)) (h1 : m ≤ lvN N k.1) (h2 : 2 ≤ k.2.1 → m ≤ lvN N k.2.1) (h3 : 2 ≤ k.2.2 → m ≤ lvN N k.2.2) : m = topN N k := by
  unfold topN
  by_cases a : 2 ≤ k.2.1 <;> by_cases b : 2 ≤ k.2.2
  · rw [if_pos a, if_pos b]; have := h2 a; have := h3 b; omega
  · rw [if_pos a, if_neg b]; have := h2 a; omega
  · rw [if_neg a, if_pos b]; have := h3 b; omega
  · rw [if_neg a, if_neg b]; omega
def partK (N : List K3) (l : Nat) (v : Bool) (k : K3) : K3 := (partN N l v k.1, partN N l v k.2.1, partN N l v k.2.2)
def partG (N : List K3) (l : Nat) (v : Bool) (x : A) : Option A := match x with
  | .d (.int n) => some (.i (partN N l v n.toNat))
  | _ => none
theorem partG_eq (N : List K3) (l : Nat) (v : Bool) (k : K3) : ((k3 k).map kA).filterMap (partG N l v) = (k3 (partK N l v k)).map kA := rfl
def valid (N : List K3) (k : K3) : Prop := k.1 < N.length + 2 ∧ k.2.1 < N.length + 2 ∧ k.2.2 < N.length + 2
def tkA (k : K3) : A := .tk (k3 k)
/-- one advance -/
def advS (S : Sto) (k : K3) : Sto :=
  match kcN S.C (partK S.N (topN S.N k) false k), kcN S.C (partK S.N (topN S.N k) true k) with
  | some x, some y => ⟨(nodeN S.N (topN S.N k, x, y)).1, S.C ++ [(k, (nodeN S.N (topN S.N k, x, y)).2)]⟩
  | _, _ => S
def advW (S : Sto) (k : K3) : List K3 :=
  (match kcN S.C (partK S.N (topN S.N k) false k) with | none => [partK S.N (topN S.N k) false k] | some _ => []) ++
  (match kcN S.C (partK S.N (topN S.N k) true k) with | none => [partK S.N (topN S.N k) true k] | some _ => [])
def spAdv (C : Addr) : ASp := fun xs R post _ => ∃ (a : Sad) (S : Sto) (wt : Addr) (W : List K3) (k : K3), xs = [.ptr a.s, .ptr wt, .tk (k3 k)] ∧ R = (wt, .lst (W.map tkA)) :: Sto.rs C a S ∧ S.small ∧ W.length + 10 < sizeLine ∧ valid S.N k ∧ kcN S.C k = none ∧ 2 ≤ k.1 ∧
  post .n ((wt, .lst ((W ++ advW S k).map tkA)) :: Sto.rs C a (advS S k))
theorem mon_adv (C : Addr) : Mon (spAdv C) := fun xs R p p' e e' h _ ⟨a, S, wt, W, k, h1, h2, h3, h4, h5, h6, h7, q⟩ => ⟨a, S, wt, W, k, h1, h2, h3, h4, h5, h6, h7, h _ _ q⟩
theorem c_Store_advance (d : Dm K C "advance" "Store.advance" s_Store_advance ["self", "waiting", "key"]) (B : Blt mg) (T : StoC K mg C) (cU : Cst K mg "UNKNOWN" (.int (-1)))
    (m1 : Mcal P w K mg base 1 C "top_level" ["self", "references"] (spTop C)) (m2 : Mcal P w K mg base 1 C "part" ["self", "a", "level", "value"] (spPart C)) (m3 : Mcal P w K mg base 1 C "known_choice" ["self", "key"] (spKnown C)) (m4 : Mcal P w K mg base 1 C "node" ["self", "level", "low", "high"] (spNode C)) :
    Mcal P w K mg base 2 C "advance" ["self", "waiting", "key"] (spAdv C) := d.cal (mon_adv C) fun f fd F => by
  obtain ⟨tc, t1, t2, t3, t4, t5, cF, cT⟩ := T
  have bTuple := B.tuple
  refine okA F sc_Store_advance lc_Store_advance (fun xs R q e h => ?_) ?_
  · obtain ⟨a, S, wt, W, k, rfl, _⟩ := h; rfl
  rintro X hX hU hr ⟨cdv, Ar, outer, s, H, E, rfl⟩ xs R post exc ⟨a, S, wt, W, k, rfl, rfl, hS, hW, hv, hk, h2, kont⟩
  show ASs _ _ (defBody s_Store_advance) [("self", some (.ptr a.s)), ("waiting", some (.ptr wt)), ("key", some (.tk (k3 k))), ("level", none), ("low", none), ("high", none), ("low_known", none), ("high_known", none), ("one", none)] _ _
  walk_at "go"
  refine ⟨Sto.rs C a S, [(wt, .lst (W.map tkA))], ?_, a, S, k, rfl, rfl, hv.1, hv.2.1, hv.2.2, h2, fun m q1 q2 q3 q4 => ?_⟩
  · walk_at "spl"
  obtain rfl := topN_is q1 q2 q3 q4
  show AG _ _ _ _ _ (StoW C a S wt (.lst (W.map tkA))) _
  walk_at "go"
  refine ae_lc [("one", 8)] [("self", some (.ptr a.s)), ("waiting", none), ("key", none), ("level", some (.i (topN S.N k))), ("low", none), ("high", none), ("low_known", none), ("high_known", none), ("one", none)] _ hX (blkOk_cx (by decide +kernel)) (.keep (by decide) (bx_vis (by decide +kernel)) (.drop (.drop (.keep (by decide) (bx_vis (by decide +kernel)) (.drop (.drop (.drop (.drop (.drop .nil))))))))) (lc_fm (i := 8) (partG S.N (topN S.N k) false) ((k3 k).map kA) (StoW C a S wt (.lst (W.map tkA))) hX rfl (by decide) (by decide +kernel) (by decide +kernel) ?_)
  refine ai_tk ?_
  walk_at "go"
  refine ⟨_, rfl, rfl, Le.refl _, (show 3 < sizeLine by decide), fun _ _ => trivial, fun D acc c hc => ?_, fun D => ?_⟩
  · have : ∃ n : Nat, c = .i n ∧ n < S.N.length + 2 := by
      simp only [k3, List.map_cons, List.map_nil, List.mem_cons, List.not_mem_nil, or_false] at hc
      rcases hc with rfl | rfl | rfl
      · exact ⟨k.1, rfl, hv.1⟩
      · exact ⟨k.2.1, rfl, hv.2.1⟩
      · exact ⟨k.2.2, rfl, hv.2.2⟩
    obtain ⟨n, rfl, hn⟩ := this
    refine ⟨_, .there (.there (.there (.there (.there (.there (.there (.there .here))))))), fun X' hx' => ⟨fun _ => ?_, fun z => by cases z⟩⟩
    rintro X' ⟨s', H', C', cl', fp', rfl⟩
    walk_at "go"
    refine ⟨Sto.rs C a S, [(D, .lst acc), (wt, .lst (W.map tkA))], ?_, a, S, n, _, false, rfl, rfl, hn, ?_⟩
    · walk_at "spl"
    exact ⟨rfl, StoW C a S wt (.lst (W.map tkA)), .there (.there (.there (.there (.there (.there .here))))), Le.refl _⟩
  rw [partG_eq]
  walk_at "go"
  refine ca_tupleK .here rfl ?_
  walk_at "go"
  refine ae_lc [("one", 8)] [("self", some (.ptr a.s)), ("waiting", none), ("key", none), ("level", some (.i (topN S.N k))), ("low", none), ("high", none), ("low_known", none), ("high_known", none), ("one", none)] _ hX (blkOk_cx (by decide +kernel)) (.keep (by decide) (bx_vis (by decide +kernel)) (.drop (.drop (.keep (by decide) (bx_vis (by decide +kernel)) (.drop (.drop (.drop (.drop (.drop .nil))))))))) (lc_fm (i := 8) (partG S.N (topN S.N k) true) ((k3 k).map kA) (StoW C a S wt (.lst (W.map tkA))) hX rfl (by decide) (by decide +kernel) (by decide +kernel) ?_)
  refine ai_tk ?_
  walk_at "go"
  refine ⟨_, rfl, rfl, Le.drop, (show 3 < sizeLine by decide), fun _ _ => trivial, fun D acc c hc => ?_, fun D => ?_⟩
  · have : ∃ n : Nat, c = .i n ∧ n < S.N.length + 2 := by
      simp only [k3, List.map_cons, List.map_nil, List.mem_cons, List.not_mem_nil, or_false] at hc
      rcases hc with rfl | rfl | rfl
      · exact ⟨k.1, rfl, hv.1⟩
      · exact ⟨k.2.1, rfl, hv.2.1⟩
      · exact ⟨k.2.2, rfl, hv.2.2⟩
    obtain ⟨n, rfl, hn⟩ := this
    refine ⟨_, .there (.there (.there (.there (.there (.there (.there (.there .here))))))), fun X' hx' => ⟨fun _ => ?_, fun z => by cases z⟩⟩
    rintro X' ⟨s', H', C', cl', fp', rfl⟩
    walk_at "go"
    refine ⟨Sto.rs C a S, [(D, .lst acc), (wt, .lst (W.map tkA))], ?_, a, S, n, _, true, rfl, rfl, hn, ?_⟩
    · walk_at "spl"
    exact ⟨rfl, StoW C a S wt (.lst (W.map tkA)), .there (.there (.there (.there (.there (.there .here))))), Le.refl _⟩
  rw [partG_eq]
  walk_at "go"
  refine ca_tupleK .here rfl ?_
  walk_at "go"
  generalize hl : partK S.N (topN S.N k) false k = kl at kont ⊢
  generalize hh : partK S.N (topN S.N k) true k = kh at kont ⊢
  apply fsp_of (R0 := Sto.rs C a S)
  · walk_at "spl"
  refine ⟨a, S, kl, rfl, rfl, ?_⟩
  unfold advS advW at kont
  rw [hl, hh] at kont
  cases e1 : kcN S.C kl with
  | none =>
    rw [e1] at kont
    show AG _ _ _ (A.i (-1)) _ (Sto.rx C a S [(D, .lst (List.map kA (k3 kh))), (wt, .lst (W.map tkA))]) _
    walk_at "go"
    apply fsp_of (R0 := Sto.rs C a S)
    · walk_at "spl"
    refine ⟨a, S, kh, rfl, rfl, ?_⟩
    cases e2 : kcN S.C kh with
    | none =>
      rw [e2] at kont
      show AG _ _ _ (A.i (-1)) _ (Sto.rx C a S [(D, .lst (List.map kA (k3 kh))), (wt, .lst (W.map tkA))]) _
      rw [show (W ++ _).map tkA = W.map tkA ++ [A.tk (k3 kl)] ++ [A.tk (k3 kh)] from by simp [tkA]] at kont
      walk_at "auto"
      refine ⟨_, ?_, kont⟩
      walk_at "le"
    | some y =>
      rw [e2] at kont
      show AG _ _ _ (A.i (y : Int)) _ (Sto.rx C a S [(D, .lst (List.map kA (k3 kh))), (wt, .lst (W.map tkA))]) _
      rw [show (W ++ _).map tkA = W.map tkA ++ [A.tk (k3 kl)] from by simp [tkA]] at kont
      walk_at "auto"
      refine ⟨_, ?_, kont⟩
      walk_at "le"
  | some x =>
    rw [e1] at kont
    show AG _ _ _ (A.i (x : Int)) _ (Sto.rx C a S [(D, .lst (List.map kA (k3 kh))), (wt, .lst (W.map tkA))]) _
    walk_at "go"
    apply fsp_of (R0 := Sto.rs C a S)
    · walk_at "spl"
    refine ⟨a, S, kh, rfl, rfl, ?_⟩
    cases e2 : kcN S.C kh with
    | none =>
      rw [e2] at kont
      show AG _ _ _ (A.i (-1)) _ (Sto.rx C a S [(D, .lst (List.map kA (k3 kh))), (wt, .lst (W.map tkA))]) _
      rw [show (W ++ _).map tkA = W.map tkA ++ [A.tk (k3 kh)] from by simp [tkA]] at kont
      walk_at "auto"
      refine ⟨_, ?_, kont⟩
      walk_at "le"
    | some y =>
      rw [e2] at kont
      show AG _ _ _ (A.i (y : Int)) _ (Sto.rx C a S [(D, .lst (List.map kA (k3 kh))), (wt, .lst (W.map tkA))]) _
      rw [show (W ++ _).map tkA = W.map tkA from by simp] at kont
      walk_at "auto"
      apply fsp_of (R0 := Sto.rs C a S)
      · walk_at "spl"
      refine ⟨a, S, _, _, _, rfl, rfl, hS, ?_⟩
      show AG _ _ _ _ _ (Sto.rx C a ⟨(nodeN S.N (topN S.N k, x, y)).1, S.C⟩ [(D, .lst (List.map kA (k3 kh))), (wt, .lst (W.map tkA))]) _
      obtain ⟨s1, s2⟩ := hS
      walk_at "auto"
      have hc : lkA (chD S.C) (k3 k) = none := by
        unfold kcN at hk
        rw [chD_lk]
        by_cases c1 : k.1 = 1 ∨ k.2.1 = k.2.2
        · rw [if_pos c1] at hk; cases hk
        rw [if_neg c1, if_neg (by omega)] at hk
        by_cases c2 : k.2.1 = 1 ∧ k.2.2 = 0
        · rw [if_pos c2] at hk; cases hk
        rw [if_neg c2] at hk
        rw [hk]; rfl
      refine ⟨_, ?_, kont⟩
      rw [putA_new _ hc]
      have ec : chD S.C ++ [(k3 k, A.i ((nodeN S.N (topN S.N k, x, y)).2 : Int))] = chD (S.C ++ [(k, (nodeN S.N (topN S.N k, x, y)).2)]) := by
        unfold chD; rw [List.map_append]; rfl
      rw [ec]
      exact Le.cons (.there (.there (.there (.there (.there (.there (.there .here))))))) (Le.cons .here (Le.cons .here (Le.cons .here (Le.cons .here (Le.cons .here (Le.cons .here (Le.nil _)))))))
end

/-! ### the store: choose -/
local macro_rules | `(tactic| walk_at "ae") => `(tactic| ((with_reducible show AE _ _ (Expr.Tuple _ _ _) _ _ _); refine ae_tupK ?_))
section
variable {P : Program} {w : World} {K : PySem.W.Frag} {mg : Str → Option Value} {base : Heap} {C : Addr}
/-- the runs of the loop -/
inductive Run : Nat → Sto → List K3 → Sto → Prop
  | done (S : Sto) : Run 0 S [] S
  | pop {n : Nat} {S T : Sto} {W : List K3} {k : K3} {v : Nat} : kcN S.C k = some v → Run n S W T → Run (n + 1) S (W ++ [k]) T
  | adv {n : Nat} {S T : Sto} {W : List K3} {k : K3} : kcN S.C k = none → S.small → W.length + 20 < sizeLine → valid S.N k → Run n (advS S k) (W ++ [k] ++ advW S k) T → Run (n + 1) S (W ++ [k]) T
def spChoose (C : Addr) : ASp := fun xs R post _ => ∃ (a : Sad) (S T : Sto) (n c x y : Nat), xs = [.ptr a.s, .i c, .i x, .i y] ∧ R = Sto.rs C a S ∧ Run n S [(c, x, y)] T ∧ post (onA (kcN T.C (c, x, y))) (Sto.rs C a T)
theorem mon_choose (C : Addr) : Mon (spChoose C) := fun xs R p p' e e' h _ ⟨a, S, T, n, c, x, y, h1, h2, h3, q⟩ => ⟨a, S, T, n, c, x, y, h1, h2, h3, h _ _ q⟩
theorem kcN_two {M : List (K3 × Nat)} {k : K3} (h : kcN M k = none) : 2 ≤ k.1 := by
  unfold kcN at h
  by_cases c1 : k.1 = 1 ∨ k.2.1 = k.2.2
  · rw [if_pos c1] at h; cases h
  rw [if_neg c1] at h
  by_cases c2 : k.1 = 0
  · rw [if_pos c2] at h; cases h
  have : ¬ k.1 = 1 := fun z => c1 (.inl z)
  omega
theorem last_at {W : List K3} {k : K3} : atI ((W ++ [k]).map tkA) (-1) = some (A.tk (k3 k)) := by
  rw [List.map_append]
  exact atI_last _ _
theorem last_get {W : List K3} {k : K3} : ((W ++ [k]).map tkA)[((W ++ [k]).map tkA).length - 1]? = some (tkA k) := by
  rw [List.map_append]; simp
theorem drop_last {W : List K3} {k : K3} : ((W ++ [k]).map tkA).dropLast = W.map tkA := by
  rw [List.map_append]; simp
theorem c_Store_choose (d : Dm K C "choose" "Store.choose" s_Store_choose ["self", "c", "a", "b"]) (B : Blt mg) (T : StoC K mg C) (cU : Cst K mg "UNKNOWN" (.int (-1)))
    (m3 : Mcal P w K mg base 1 C "known_choice" ["self", "key"] (spKnown C)) (m4 : Mcal P w K mg base 2 C "advance" ["self", "waiting", "key"] (spAdv C)) :
    Mcal P w K mg base 3 C "choose" ["self", "c", "a", "b"] (spChoose C) := d.cal (mon_choose C) fun f fd F => by
  obtain ⟨tc, t1, t2, t3, t4, t5, cF, cT⟩ := T
  refine okA F sc_Store_choose lc_Store_choose (fun xs R q e h => ?_) ?_
  · obtain ⟨a, S, T, n, c, x, y, rfl, _⟩ := h; rfl
  rintro X hX hU hr ⟨cdv, Ar, outer, s, H, E, rfl⟩ xs R post exc ⟨a, S, T, n, c, x, y, rfl, rfl, hrun, kont⟩
  show ASs _ _ (defBody s_Store_choose) [("self", some (.ptr a.s)), ("c", some (.i c)), ("a", some (.i x)), ("b", some (.i y)), ("waiting", none), ("key", none)] _ _
  walk_at "as"
  walk_at "as"
  refine ae_lst ?_
  refine aes_cons ?_
  refine ae_tupK ?_
  walk_at "go"
  refine ⟨k3 (c, x, y), rfl, (show 3 ≤ sizeLine by decide), ?_⟩
  walk_at "go"
  refine ⟨(show 1 ≤ sizeLine by decide), fun wt => ?_⟩
  walk_at "go"
  refine as_while (fun m δ R => ∃ (S' : Sto) (W : List K3) (key : Option AL.A), Run m S' W T ∧ δ = ([("self", some (.ptr a.s)), ("c", some (.i c)), ("a", some (.i x)), ("b", some (.i y)), ("waiting", some (.ptr wt)), ("key", key)] : SL) ∧ R = (wt, .lst (W.map tkA)) :: Sto.rs C a S') hX ⟨n, Wk.self ⟨S, [(c, x, y)], _, hrun, rfl, rfl⟩⟩ ?_
  rintro m δ R ⟨S', W, key, hR, rfl, rfl⟩
  cases hR with
  | done =>
    walk_at "go"
    refine ⟨false, .inl ⟨_, List.mem_cons_self, rfl⟩, ?_⟩
    walk_at "go"
    refine ⟨k3 (c, x, y), rfl, (show 3 ≤ sizeLine by decide), ?_⟩
    walk_at "go"
    apply fsp_of (R0 := Sto.rs C a T)
    · walk_at "spl"
    refine ⟨a, T, (c, x, y), rfl, rfl, ?_⟩
    exact ⟨_, Le.cons .here (Le.cons .here (Le.cons .here (Le.cons .here (Le.cons .here (Le.cons .here (Le.nil _)))))), kont⟩
  | @pop n _ _ W k v h1 h2 =>
    walk_at "go"
    refine ⟨true, .inl ⟨_, List.mem_cons_self, by simp⟩, ?_⟩
    walk_at "go"
    refine ia_lst .here last_at ?_
    walk_at "go"
    apply fsp_of (R0 := Sto.rs C a S')
    · walk_at "spl"
    refine ⟨a, S', k, rfl, rfl, ?_⟩
    rw [h1]
    show AE _ _ _ _ (Sto.rx C a S' [(wt, .lst ((W ++ [k]).map tkA))]) _
    walk_at "go"
    show BA _ _ (A.i (v : Int)) _ _ _
    walk_at "auto"
    rotate_left
    · exact last_get
    rw [drop_last]
    exact ⟨_, _, Le.cons (.there (.there (.there (.there (.there (.there .here)))))) (Le.refl _), Fg.refl _, n, by omega, S', W, _, h2, rfl, rfl⟩
  | @adv n _ _ W k h1 h2 h3 h4 h5 =>
    walk_at "go"
    refine ⟨true, .inl ⟨_, List.mem_cons_self, by simp⟩, ?_⟩
    walk_at "go"
    refine ia_lst .here last_at ?_
    walk_at "go"
    apply fsp_of (R0 := Sto.rs C a S')
    · walk_at "spl"
    refine ⟨a, S', k, rfl, rfl, ?_⟩
    rw [h1]
    show AE _ _ _ _ (Sto.rx C a S' [(wt, .lst ((W ++ [k]).map tkA))]) _
    walk_at "go"
    show BA _ _ (A.i (-1)) _ _ _
    walk_at "auto"
    apply fsp_of (R0 := (wt, .lst ((W ++ [k]).map tkA)) :: Sto.rs C a S')
    · walk_at "spl"
    refine ⟨a, S', wt, W ++ [k], k, rfl, rfl, h2, by simp; omega, h4, h1, kcN_two h1, ?_⟩
    show ASs _ _ [] _ ((wt, .lst ((W ++ [k] ++ advW S' k).map tkA)) :: Sto.rs C a (advS S' k)) _
    walk_at "auto"
    exact Wk.self ⟨n, by omega, advS S' k, _, _, h5, rfl, rfl⟩
end

/-! ### what a store means -/
def evF (N : List K3) (β : Nat → Bool) : Nat → Nat → Bool
  | 0, a => a == 1
  | f + 1, a => if a < 2 then a == 1 else evF N β f (if β (lvN N a) then hiN N a else loN N a)
def ev (N : List K3) (β : Nat → Bool) (a : Nat) : Bool := evF N β a a
/-- the level is at least l -/
def geL (N : List K3) (l a : Nat) : Prop := 2 ≤ a → l ≤ lvN N a
structure NdOk (M : Nat) (N : List K3) (a : Nat) : Prop where
  lo : loN N a < a
  hi : hiN N a < a
  llo : geL N (lvN N a + 1) (loN N a)
  lhi : geL N (lvN N a + 1) (hiN N a)
  lv : lvN N a < M
def NOk (M : Nat) (N : List K3) : Prop := ∀ a, 2 ≤ a → a < N.length + 2 → NdOk M N a
theorem getD_app {N l : List K3} {i : Nat} {d : K3} (h : i < N.length) : (N ++ l).getD i d = N.getD i d := by
  rw [List.getD_eq_getElem?_getD, List.getD_eq_getElem?_getD, List.getElem?_append_left h]
theorem lv_app {N l : List K3} {a : Nat} (h : a < N.length + 2) (h2 : 2 ≤ a) : lvN (N ++ l) a = lvN N a := by
  unfold lvN; rw [getD_app (by omega)]
theorem lo_app {N l : List K3} {a : Nat} (h : a < N.length + 2) (h2 : 2 ≤ a) : loN (N ++ l) a = loN N a := by
  unfold loN; rw [getD_app (by omega)]
theorem hi_app {N l : List K3} {a : Nat} (h : a < N.length + 2) (h2 : 2 ≤ a) : hiN (N ++ l) a = hiN N a := by
  unfold hiN; rw [getD_app (by omega)]
theorem geL_app {N l : List K3} {a m : Nat} (h : a < N.length + 2) : geL (N ++ l) m a ↔ geL N m a := by
  unfold geL
  constructor
  · intro z h2; have := z h2; rwa [lv_app h h2] at this
  · intro z h2; rw [lv_app h h2]; exact z h2
theorem geL_mono {N : List K3} {a m m' : Nat} (h : geL N m a) (q : m' ≤ m) : geL N m' a := fun z => Nat.le_trans q (h z)
theorem evF_eq {M : Nat} {N : List K3} (hN : NOk M N) (β : Nat → Bool) : ∀ f a, a < N.length + 2 → a ≤ f → evF N β f a = evF N β a a := by
  intro f
  induction f using Nat.strongRecOn with
  | _ f ih =>
    intro a ha hf
    cases f with
    | zero => have : a = 0 := by omega
              rw [this]
    | succ f =>
      by_cases h2 : a < 2
      · show (if a < 2 then a == 1 else _) = _
        rw [if_pos h2]
        cases a with
        | zero => rfl
        | succ a => show _ = (if a + 1 < 2 then a + 1 == 1 else _); rw [if_pos h2]
      · have ok := hN a (by omega) ha
        cases a with
        | zero => omega
        | succ a =>
          show (if a + 1 < 2 then a + 1 == 1 else evF N β f _) = (if a + 1 < 2 then a + 1 == 1 else evF N β a _)
          rw [if_neg h2, if_neg h2]
          have hb : (if β (lvN N (a + 1)) then hiN N (a + 1) else loN N (a + 1)) < a + 1 := by split; exact ok.hi; exact ok.lo
          rw [ih f (by omega) _ (by omega) (by omega), ih a (by omega) _ (by omega) (by omega)]
theorem ev_step {M : Nat} {N : List K3} (hN : NOk M N) (β : Nat → Bool) {a : Nat} (h2 : 2 ≤ a) (ha : a < N.length + 2) : ev N β a = ev N β (if β (lvN N a) then hiN N a else loN N a) := by
  have ok := hN a h2 ha
  unfold ev
  cases a with
  | zero => omega
  | succ a =>
    show (if a + 1 < 2 then a + 1 == 1 else evF N β a _) = _
    rw [if_neg (by omega)]
    have hb : (if β (lvN N (a + 1)) then hiN N (a + 1) else loN N (a + 1)) < a + 1 := by split; exact ok.hi; exact ok.lo
    rw [evF_eq hN β a _ (by omega) (by omega)]
theorem ev_one (N : List K3) (β : Nat → Bool) {a : Nat} (h : a < 2) : ev N β a = (a == 1) := by
  unfold ev
  cases a with
  | zero => rfl
  | succ a => show (if a + 1 < 2 then a + 1 == 1 else _) = _; rw [if_pos h]
theorem ev_app {M : Nat} {N l : List K3} (hN : NOk M N) (hN' : NOk M (N ++ l)) (β : Nat → Bool) : ∀ a, a < N.length + 2 → ev (N ++ l) β a = ev N β a := by
  intro a
  induction a using Nat.strongRecOn with
  | _ a ih =>
    intro ha
    by_cases h2 : a < 2
    · rw [ev_one _ _ h2, ev_one _ _ h2]
    · have h2 : 2 ≤ a := by omega
      have ok := hN a h2 ha
      rw [ev_step hN β h2 ha, ev_step hN' β h2 (by rw [List.length_append]; omega), lv_app ha h2, hi_app ha h2, lo_app ha h2]
      have hb : (if β (lvN N a) then hiN N a else loN N a) < a := by split; exact ok.hi; exact ok.lo
      exact ih _ hb (by omega)
/-- one node more -/
theorem nok_snoc {M : Nat} {N : List K3} {x : K3} (hN : NOk M N) (h1 : x.2.1 < N.length + 2) (h2 : x.2.2 < N.length + 2) (g1 : geL N (x.1 + 1) x.2.1) (g2 : geL N (x.1 + 1) x.2.2) (hm : x.1 < M) : NOk M (N ++ [x]) := by
  intro a ha hl
  rw [List.length_append, List.length_singleton] at hl
  by_cases hlt : a < N.length + 2
  · have ok := hN a ha hlt
    have q1 := ok.lo
    have q2 := ok.hi
    refine ⟨by rw [lo_app hlt ha]; exact q1, by rw [hi_app hlt ha]; exact q2, ?_, ?_, by rw [lv_app hlt ha]; exact ok.lv⟩
    · rw [lo_app hlt ha, lv_app hlt ha]; exact (geL_app (by omega)).mpr ok.llo
    · rw [hi_app hlt ha, lv_app hlt ha]; exact (geL_app (by omega)).mpr ok.lhi
  · have e : a - 2 = N.length := by omega
    have g : (N ++ [x]).getD (a - 2) (0, 0, 0) = x := by
      rw [e, List.getD_eq_getElem?_getD, List.getElem?_append_right (Nat.le_refl _)]; simp
    refine ⟨by unfold loN; rw [g]; omega, by unfold hiN; rw [g]; omega, ?_, ?_, by unfold lvN; rw [g]; exact hm⟩
    · unfold loN lvN; rw [g]; exact (geL_app h1).mpr g1
    · unfold hiN lvN; rw [g]; exact (geL_app h2).mpr g2
/-- what node gives -/
structure NdR (M : Nat) (N : List K3) (x : K3) : Prop where
  ok : NOk M (nodeN N x).1
  app : ∃ l, (nodeN N x).1 = N ++ l ∧ l.length ≤ 1
  lt : (nodeN N x).2 < (nodeN N x).1.length + 2
  ev : ∀ β, ev (nodeN N x).1 β (nodeN N x).2 = ev (nodeN N x).1 β (if β x.1 then x.2.2 else x.2.1)
  ge : ∀ m, m ≤ x.1 → geL N m x.2.1 → geL (nodeN N x).1 m (nodeN N x).2
theorem nodeN_ok {M : Nat} {N : List K3} {x : K3} (hN : NOk M N) (h1 : x.2.1 < N.length + 2) (h2 : x.2.2 < N.length + 2) (g1 : geL N (x.1 + 1) x.2.1) (g2 : geL N (x.1 + 1) x.2.2) (hm : x.1 < M) : NdR M N x := by
  have key : ∀ (N' : List K3) (v : Nat), NOk M N' → 2 ≤ v → v < N'.length + 2 → N'.getD (v - 2) (0, 0, 0) = x → (∀ β, AL.ev N' β v = AL.ev N' β (if β x.1 then x.2.2 else x.2.1)) ∧ ∀ m, m ≤ x.1 → geL N' m v := by
    intro N' v hN' hv hl hg
    refine ⟨fun β => ?_, fun m hm _ => ?_⟩
    · rw [ev_step hN' β hv hl]
      unfold lvN hiN loN
      rw [hg]
    · unfold lvN; rw [hg]; exact hm
  by_cases e : x.2.1 = x.2.2
  · have hn : nodeN N x = (N, x.2.1) := by unfold nodeN; rw [if_pos e]
    refine ⟨?_, ?_, ?_, ?_, ?_⟩ <;> rw [hn]
    · exact hN
    · exact ⟨[], by simp, by simp⟩
    · exact h1
    · intro β; rw [← e]; split <;> rfl
    · intro m _ z; exact z
  · by_cases hx : x ∈ N
    · have hn : nodeN N x = (N, N.idxOf x + 2) := by unfold nodeN; rw [if_neg e, if_pos hx]
      have hi := List.idxOf_lt_length_of_mem hx
      have hg : N.getD (N.idxOf x + 2 - 2) (0, 0, 0) = x := by
        rw [List.getD_eq_getElem?_getD, Nat.add_sub_cancel, List.getElem?_eq_getElem hi]
        simp
      obtain ⟨k1, k2⟩ := key N (N.idxOf x + 2) hN (by omega) (by omega) hg
      refine ⟨?_, ?_, ?_, ?_, ?_⟩ <;> rw [hn]
      · exact hN
      · exact ⟨[], by simp, by simp⟩
      · show N.idxOf x + 2 < N.length + 2; omega
      · exact k1
      · intro m hm _; exact k2 m hm
    · have hn : nodeN N x = (N ++ [x], N.length + 2) := by unfold nodeN; rw [if_neg e, if_neg hx]
      have hN' := nok_snoc hN h1 h2 g1 g2 hm
      have hg : (N ++ [x]).getD (N.length + 2 - 2) (0, 0, 0) = x := by
        rw [List.getD_eq_getElem?_getD, Nat.add_sub_cancel, List.getElem?_append_right (Nat.le_refl _)]; simp
      obtain ⟨k1, k2⟩ := key (N ++ [x]) (N.length + 2) hN' (by omega) (by simp) hg
      refine ⟨?_, ?_, ?_, ?_, ?_⟩ <;> rw [hn]
      · exact hN'
      · exact ⟨[x], rfl, by simp⟩
      · simp
      · exact k1
      · intro m hm _; exact k2 m hm

/-! ### choosing is right, and ends -/
def geK (N : List K3) (m : Nat) (k : K3) : Prop := geL N m k.1 ∧ geL N m k.2.1 ∧ geL N m k.2.2
structure Good (N : List K3) (k : K3) (v : Nat) : Prop where
  val : valid N k
  lt : v < N.length + 2
  ev : ∀ β, ev N β v = if ev N β k.1 then ev N β k.2.1 else ev N β k.2.2
  ge : ∀ m, geK N m k → geL N m v
structure SOk (M : Nat) (S : Sto) : Prop where
  nodes : NOk M S.N
  ch : ∀ k v, chL S.C k = some v → Good S.N k v
theorem valid_app {N l : List K3} {k : K3} (h : valid N k) : valid (N ++ l) k := by
  obtain ⟨h1, h2, h3⟩ := h
  refine ⟨?_, ?_, ?_⟩ <;> rw [List.length_append] <;> omega
theorem geK_app {N l : List K3} {m : Nat} {k : K3} (h : valid N k) : geK (N ++ l) m k ↔ geK N m k := by
  unfold geK; rw [geL_app h.1, geL_app h.2.1, geL_app h.2.2]
theorem good_app {M : Nat} {N l : List K3} {k : K3} {v : Nat} (hN : NOk M N) (hN' : NOk M (N ++ l)) (h : Good N k v) : Good (N ++ l) k v := by
  refine ⟨valid_app h.val, by rw [List.length_append]; have := h.lt; omega, fun β => ?_, fun m hm => (geL_app h.lt).mpr (h.ge m ((geK_app h.val).mp hm))⟩
  rw [ev_app hN hN' β _ h.lt, ev_app hN hN' β _ h.val.1, ev_app hN hN' β _ h.val.2.1, ev_app hN hN' β _ h.val.2.2]
  exact h.ev β
theorem kc_good {M : Nat} {S : Sto} {k : K3} {v : Nat} (hS : SOk M S) (hv : valid S.N k) (h : kcN S.C k = some v) : Good S.N k v := by
  unfold kcN at h
  by_cases c1 : k.1 = 1 ∨ k.2.1 = k.2.2
  · rw [if_pos c1] at h
    obtain rfl := Option.some.inj h
    refine ⟨hv, hv.2.1, fun β => ?_, fun m hm => hm.2.1⟩
    rcases c1 with c | c
    · rw [c, ev_one _ _ (show 1 < 2 by omega)]; rfl
    · rw [c]; split <;> rfl
  rw [if_neg c1] at h
  by_cases c2 : k.1 = 0
  · rw [if_pos c2] at h
    obtain rfl := Option.some.inj h
    refine ⟨hv, hv.2.2, fun β => ?_, fun m hm => hm.2.2⟩
    rw [c2, ev_one _ _ (show 0 < 2 by omega)]; rfl
  rw [if_neg c2] at h
  by_cases c3 : k.2.1 = 1 ∧ k.2.2 = 0
  · rw [if_pos c3] at h
    obtain rfl := Option.some.inj h
    refine ⟨hv, hv.1, fun β => ?_, fun m hm => hm.1⟩
    rw [c3.1, c3.2, ev_one _ _ (show 1 < 2 by omega), ev_one _ _ (show 0 < 2 by omega)]
    cases ev S.N β k.1 <;> rfl
  rw [if_neg c3] at h
  exact hS.ch k v h
theorem chL_app {M l : List (K3 × Nat)} {k : K3} {v : Nat} (h : chL M k = some v) : chL (M ++ l) k = some v := by
  unfold chL at h ⊢
  rw [List.find?_append]
  cases e : M.find? (fun e => decide (e.1 = k)) with
  | none => rw [e] at h; cases h
  | some x => rw [e] at h; exact h
theorem chL_new {M : List (K3 × Nat)} {k : K3} {v : Nat} (h : chL M k = none) : chL (M ++ [(k, v)]) k = some v := by
  unfold chL at h ⊢
  rw [List.find?_append]
  cases e : M.find? (fun e => decide (e.1 = k)) with
  | none => simp
  | some x => rw [e] at h; cases h
theorem chL_snoc {M : List (K3 × Nat)} {k k' : K3} {v v' : Nat} (h : chL (M ++ [(k, v)]) k' = some v') : chL M k' = some v' ∨ (k' = k ∧ v' = v) := by
  unfold chL at h ⊢
  rw [List.find?_append] at h
  cases e : M.find? (fun e => decide (e.1 = k')) with
  | none =>
    rw [e] at h
    by_cases q : k = k'
    · subst q
      simp at h
      exact .inr ⟨rfl, h.symm⟩
    · simp [q] at h
  | some x => rw [e] at h; exact .inl h
theorem kc_app {M l : List (K3 × Nat)} {k : K3} {v : Nat} (h : kcN M k = some v) : ∃ v', kcN (M ++ l) k = some v' := by
  unfold kcN at h ⊢
  by_cases c1 : k.1 = 1 ∨ k.2.1 = k.2.2
  · rw [if_pos c1]; exact ⟨_, rfl⟩
  rw [if_neg c1] at h ⊢
  by_cases c2 : k.1 = 0
  · rw [if_pos c2]; exact ⟨_, rfl⟩
  rw [if_neg c2] at h ⊢
  by_cases c3 : k.2.1 = 1 ∧ k.2.2 = 0
  · rw [if_pos c3]; exact ⟨_, rfl⟩
  rw [if_neg c3] at h ⊢
  exact ⟨v, chL_app h⟩
theorem kc_none {M : List (K3 × Nat)} {k : K3} (h : kcN M k = none) : chL M k = none ∧ ∀ M', kcN M' k = chL M' k := by
  unfold kcN at h ⊢
  by_cases c1 : k.1 = 1 ∨ k.2.1 = k.2.2
  · rw [if_pos c1] at h; cases h
  rw [if_neg c1] at h
  by_cases c2 : k.1 = 0
  · rw [if_pos c2] at h; cases h
  rw [if_neg c2] at h
  by_cases c3 : k.2.1 = 1 ∧ k.2.2 = 0
  · rw [if_pos c3] at h; cases h
  rw [if_neg c3] at h
  exact ⟨h, fun M' => by rw [if_neg c1, if_neg c2, if_neg c3]⟩
/-- the top level: the least, of one of the three -/
theorem top_geK {N : List K3} {k : K3} (h2 : 2 ≤ k.1) : geK N (topN N k) k := by
  unfold topN
  refine ⟨fun _ => ?_, fun z => ?_, fun z => ?_⟩
  · omega
  · rw [if_pos z]; omega
  · rw [if_pos z]; omega
theorem top_mem {N : List K3} {k : K3} (h2 : 2 ≤ k.1) (hv : valid N k) {p : Nat → Prop} (h : ∀ a, 2 ≤ a → a < N.length + 2 → p (lvN N a)) : p (topN N k) := by
  have e : topN N k = lvN N k.1 ∨ (2 ≤ k.2.1 ∧ topN N k = lvN N k.2.1) ∨ (2 ≤ k.2.2 ∧ topN N k = lvN N k.2.2) := by
    unfold topN
    by_cases a : 2 ≤ k.2.1 <;> by_cases b : 2 ≤ k.2.2
    · rw [if_pos a, if_pos b]; omega
    · rw [if_pos a, if_neg b]; omega
    · rw [if_neg a, if_pos b]; omega
    · rw [if_neg a, if_neg b]; omega
  rcases e with e | ⟨z, e⟩ | ⟨z, e⟩ <;> rw [e]
  · exact h _ h2 hv.1
  · exact h _ z hv.2.1
  · exact h _ z hv.2.2
theorem top_ge {N : List K3} {k : K3} {m : Nat} (h2 : 2 ≤ k.1) (h : geK N m k) : m ≤ topN N k := by
  unfold topN
  have h1 := h.1 h2
  have ha : 2 ≤ k.2.1 → m ≤ lvN N k.2.1 := h.2.1
  have hb : 2 ≤ k.2.2 → m ≤ lvN N k.2.2 := h.2.2
  by_cases a : 2 ≤ k.2.1 <;> by_cases b : 2 ≤ k.2.2
  · rw [if_pos a, if_pos b]; have := ha a; have := hb b; omega
  · rw [if_pos a, if_neg b]; have := ha a; omega
  · rw [if_neg a, if_pos b]; have := hb b; omega
  · rw [if_neg a, if_neg b]; omega
/-- a cofactor -/
theorem part_lt {M : Nat} {N : List K3} {l : Nat} {v : Bool} {a : Nat} (hN : NOk M N) (ha : a < N.length + 2) : partN N l v a < N.length + 2 := by
  unfold partN
  by_cases h : a < 2
  · rw [if_pos h]; exact ha
  rw [if_neg h]
  have ok := hN a (by omega) ha
  have := ok.lo
  have := ok.hi
  split
  · split <;> omega
  · exact ha
theorem part_ge {M : Nat} {N : List K3} {l : Nat} {v : Bool} {a : Nat} (hN : NOk M N) (ha : a < N.length + 2) (hl : geL N l a) : geL N (l + 1) (partN N l v a) := by
  unfold partN
  by_cases h : a < 2
  · rw [if_pos h]; intro z; omega
  rw [if_neg h]
  have ok := hN a (by omega) ha
  by_cases e : lvN N a = l
  · rw [if_pos e]
    subst e
    split
    · exact ok.lhi
    · exact ok.llo
  · rw [if_neg e]
    intro z
    have := hl z
    omega
theorem part_ge0 {M : Nat} {N : List K3} {l m : Nat} {v : Bool} {a : Nat} (hN : NOk M N) (ha : a < N.length + 2) (hl : geL N m a) : geL N m (partN N l v a) := by
  unfold partN
  by_cases h : a < 2
  · rw [if_pos h]; exact hl
  rw [if_neg h]
  have ok := hN a (by omega) ha
  have hm := hl (by omega)
  split
  · split
    · exact geL_mono ok.lhi (by omega)
    · exact geL_mono ok.llo (by omega)
  · exact hl
theorem part_ev {M : Nat} {N : List K3} {l : Nat} {a : Nat} (hN : NOk M N) (ha : a < N.length + 2) (β : Nat → Bool) : ev N β (partN N l (β l) a) = ev N β a := by
  unfold partN
  by_cases h : a < 2
  · rw [if_pos h]
  rw [if_neg h]
  by_cases e : lvN N a = l
  · rw [if_pos e, ev_step hN β (show 2 ≤ a by omega) ha, e]
  · rw [if_neg e]
theorem partK_valid {M : Nat} {N : List K3} {l : Nat} {v : Bool} {k : K3} (hN : NOk M N) (h : valid N k) : valid N (partK N l v k) := ⟨part_lt hN h.1, part_lt hN h.2.1, part_lt hN h.2.2⟩
theorem partK_ge {M : Nat} {N : List K3} {l : Nat} {v : Bool} {k : K3} (hN : NOk M N) (h : valid N k) (g : geK N l k) : geK N (l + 1) (partK N l v k) := ⟨part_ge hN h.1 g.1, part_ge hN h.2.1 g.2.1, part_ge hN h.2.2 g.2.2⟩
theorem partK_ge0 {M : Nat} {N : List K3} {l m : Nat} {v : Bool} {k : K3} (hN : NOk M N) (h : valid N k) (g : geK N m k) : geK N m (partK N l v k) := ⟨part_ge0 hN h.1 g.1, part_ge0 hN h.2.1 g.2.1, part_ge0 hN h.2.2 g.2.2⟩
/-- stores that grow -/
structure Grow (S S' : Sto) (g : Nat) : Prop where
  n : ∃ l, S'.N = S.N ++ l ∧ l.length ≤ g
  c : ∃ l, S'.C = S.C ++ l ∧ l.length ≤ g
theorem Grow.refl (S : Sto) : Grow S S 0 := ⟨⟨[], by simp, by simp⟩, ⟨[], by simp, by simp⟩⟩
theorem Grow.trans {S S1 S2 : Sto} {g g' : Nat} (a : Grow S S1 g) (b : Grow S1 S2 g') : Grow S S2 (g + g') := by
  obtain ⟨⟨l1, e1, n1⟩, ⟨l2, e2, n2⟩⟩ := a
  obtain ⟨⟨m1, f1, p1⟩, ⟨m2, f2, p2⟩⟩ := b
  refine ⟨⟨l1 ++ m1, by rw [f1, e1, List.append_assoc], by rw [List.length_append]; omega⟩, ⟨l2 ++ m2, by rw [f2, e2, List.append_assoc], by rw [List.length_append]; omega⟩⟩
theorem Grow.mono {S S1 : Sto} {g g' : Nat} (a : Grow S S1 g) (h : g ≤ g') : Grow S S1 g' := by
  obtain ⟨⟨l1, e1, n1⟩, ⟨l2, e2, n2⟩⟩ := a
  exact ⟨⟨l1, e1, by omega⟩, ⟨l2, e2, by omega⟩⟩
theorem Grow.len {S S1 : Sto} {g : Nat} (a : Grow S S1 g) : S1.N.length ≤ S.N.length + g ∧ S1.C.length ≤ S.C.length + g ∧ S.N.length ≤ S1.N.length := by
  obtain ⟨⟨l1, e1, n1⟩, ⟨l2, e2, n2⟩⟩ := a
  rw [e1, e2, List.length_append, List.length_append]; omega
theorem Grow.part {M : Nat} {S S1 : Sto} {g : Nat} (a : Grow S S1 g) (hN : NOk M S.N) {l : Nat} {v : Bool} {k : K3} (hv : valid S.N k) : partK S1.N l v k = partK S.N l v k := by
  obtain ⟨⟨l1, e1, _⟩, _⟩ := a
  have one : ∀ x, x < S.N.length + 2 → partN S1.N l v x = partN S.N l v x := by
    intro x hx
    unfold partN
    by_cases h : x < 2
    · rw [if_pos h, if_pos h]
    · rw [if_neg h, if_neg h, e1, lv_app hx (by omega), lo_app hx (by omega), hi_app hx (by omega)]
  unfold AL.partK
  rw [one _ hv.1, one _ hv.2.1, one _ hv.2.2]
theorem Grow.top {S S1 : Sto} {g : Nat} (a : Grow S S1 g) {k : K3} (h2 : 2 ≤ k.1) (hv : valid S.N k) : topN S1.N k = topN S.N k := by
  obtain ⟨⟨l1, e1, _⟩, _⟩ := a
  unfold topN
  rw [e1, lv_app hv.1 h2]
  by_cases x : 2 ≤ k.2.1 <;> by_cases y : 2 ≤ k.2.2
  · rw [if_pos x, if_pos y, if_pos x, if_pos y, lv_app hv.2.1 x, lv_app hv.2.2 y]
  · rw [if_pos x, if_neg y, if_pos x, if_neg y, lv_app hv.2.1 x]
  · rw [if_neg x, if_pos y, if_neg x, if_pos y, lv_app hv.2.2 y]
  · rw [if_neg x, if_neg y, if_neg x, if_neg y]
theorem Grow.valid {S S1 : Sto} {g : Nat} (a : Grow S S1 g) {k : K3} (hv : valid S.N k) : AL.valid S1.N k := by
  obtain ⟨⟨l1, e1, _⟩, _⟩ := a
  rw [e1]; exact valid_app hv
theorem Grow.geK {S S1 : Sto} {g m : Nat} (a : Grow S S1 g) {k : K3} (hv : AL.valid S.N k) (h : geK S.N m k) : AL.geK S1.N m k := by
  obtain ⟨⟨l1, e1, _⟩, _⟩ := a
  rw [e1]; exact (geK_app hv).mpr h
theorem Grow.kc {S S1 : Sto} {g : Nat} (a : Grow S S1 g) {k : K3} {v : Nat} (h : kcN S.C k = some v) : ∃ v', kcN S1.C k = some v' := by
  obtain ⟨_, ⟨l1, e1, _⟩⟩ := a
  rw [e1]; exact kc_app h
/-- both cofactors known: the key gets known -/
theorem run_fin {M : Nat} {S : Sto} {k : K3} {W : List K3} {x y : Nat} (hS : SOk M S) (hv : valid S.N k) (h2 : 2 ≤ k.1) (s1 : S.N.length + 30 < sizeLine) (s2 : S.C.length + 30 < sizeLine) (s3 : W.length + 30 < sizeLine)
    (hx : kcN S.C (partK S.N (topN S.N k) false k) = some x) (hy : kcN S.C (partK S.N (topN S.N k) true k) = some y) :
    ∃ S', SOk M S' ∧ Grow S S' 1 ∧ (∃ v, kcN S'.C k = some v) ∧ ∀ T m, Run m S' W T → ∃ n, Run n S (W ++ [k]) T := by
  cases hk : kcN S.C k with
  | some v => exact ⟨S, hS, (Grow.refl S).mono (by omega), ⟨v, hk⟩, fun T m r => ⟨m + 1, .pop hk r⟩⟩
  | none =>
    obtain ⟨hc, hall⟩ := kc_none hk
    have gx := kc_good hS (partK_valid hS.nodes hv) hx
    have gy := kc_good hS (partK_valid hS.nodes hv) hy
    have tg := top_geK (N := S.N) h2
    have nd := nodeN_ok (x := (topN S.N k, x, y)) hS.nodes gx.lt gy.lt (gx.ge _ (partK_ge hS.nodes hv tg)) (gy.ge _ (partK_ge hS.nodes hv tg)) (top_mem h2 hv (p := (· < M)) fun a h2 ha => (hS.nodes a h2 ha).lv)
    have ea : advS S k = ⟨(nodeN S.N (topN S.N k, x, y)).1, S.C ++ [(k, (nodeN S.N (topN S.N k, x, y)).2)]⟩ := by unfold advS; rw [hx, hy]
    have ew : advW S k = [] := by unfold advW; rw [hx, hy]; rfl
    obtain ⟨l, el, ll⟩ := nd.app
    have gk : Good (nodeN S.N (topN S.N k, x, y)).1 k (nodeN S.N (topN S.N k, x, y)).2 := by
      have hok := nd.ok
      refine ⟨by rw [el]; exact valid_app hv, nd.lt, fun β => ?_, fun m hm => ?_⟩
      · rw [nd.ev β]
        rw [el] at hok ⊢
        have ex : ev (S.N ++ l) β (if β (topN S.N k) then y else x) = ev S.N β (if β (topN S.N k) then y else x) := ev_app hS.nodes hok β _ (by split; exact gy.lt; exact gx.lt)
        show ev (S.N ++ l) β (if β (topN S.N k) then y else x) = _
        rw [ex, ev_app hS.nodes hok β _ hv.1, ev_app hS.nodes hok β _ hv.2.1, ev_app hS.nodes hok β _ hv.2.2]
        rw [← part_ev (l := topN S.N k) hS.nodes hv.1 β, ← part_ev (l := topN S.N k) hS.nodes hv.2.1 β, ← part_ev (l := topN S.N k) hS.nodes hv.2.2 β]
        cases hb : β (topN S.N k)
        · exact gx.ev β
        · exact gy.ev β
      · rw [el] at hm
        have hm := (geK_app hv).mp hm
        exact nd.ge m (top_ge h2 hm) (gx.ge m (partK_ge0 hS.nodes hv hm))
    have hS' : SOk M (advS S k) := by
      rw [ea]
      refine ⟨nd.ok, fun k' v' h' => ?_⟩
      rcases chL_snoc h' with h' | ⟨rfl, rfl⟩
      · have := hS.ch k' v' h'
        have hok := nd.ok
        show Good (nodeN S.N (topN S.N k, x, y)).1 k' v'
        rw [el] at hok ⊢
        exact good_app hS.nodes hok this
      · exact gk
    have hkc : kcN (advS S k).C k = some (nodeN S.N (topN S.N k, x, y)).2 := by
      rw [hall, ea]; exact chL_new hc
    refine ⟨advS S k, hS', ⟨by rw [ea]; exact ⟨l, el, ll⟩, by rw [ea]; exact ⟨_, rfl, by simp⟩⟩, ⟨_, hkc⟩, fun T m r => ⟨m + 2, .adv hk ⟨by omega, by omega⟩ (by omega) hv ?_⟩⟩
    rw [ew, List.append_nil]
    exact .pop hkc r
theorem run_ex {M : Nat} : ∀ (r : Nat) (S : Sto) (k : K3) (W : List K3), SOk M S → valid S.N k → geK S.N (M - r) k → S.N.length + 2 ^ r + 40 < sizeLine → S.C.length + 2 ^ r + 40 < sizeLine → W.length + 2 * r + 40 < sizeLine →
    ∃ S', SOk M S' ∧ Grow S S' (2 ^ r - 1) ∧ (∃ v, kcN S'.C k = some v) ∧ ∀ T m, Run m S' W T → ∃ n, Run n S (W ++ [k]) T := by
  intro r
  induction r with
  | zero =>
    intro S k W hS hv hg s1 s2 s3
    have : ∃ v, kcN S.C k = some v := by
      by_cases h : 2 ≤ k.1
      · have := hg.1 h
        have := (hS.nodes k.1 h hv.1).lv
        omega
      · cases e : kcN S.C k with
        | some v => exact ⟨v, rfl⟩
        | none => exact absurd (kcN_two e) h
    obtain ⟨v, hk⟩ := this
    exact ⟨S, hS, Grow.refl S, ⟨v, hk⟩, fun T m r => ⟨m + 1, .pop hk r⟩⟩
  | succ r ih =>
    intro S k W hS hv hg s1 s2 s3
    have e2 : 2 ^ (r + 1) = 2 ^ r + 2 ^ r := by rw [Nat.pow_succ]; omega
    have p2 : 1 ≤ 2 ^ r := Nat.one_le_two_pow
    cases hk : kcN S.C k with
    | some v => exact ⟨S, hS, (Grow.refl S).mono (by omega), ⟨v, hk⟩, fun T m r => ⟨m + 1, .pop hk r⟩⟩
    | none =>
      have h2 := kcN_two hk
      have tg := top_geK (N := S.N) h2
      have tm := top_ge h2 hg
      have vl : valid S.N (partK S.N (topN S.N k) false k) := partK_valid hS.nodes hv
      have vh : valid S.N (partK S.N (topN S.N k) true k) := partK_valid hS.nodes hv
      have mono : ∀ {q : K3}, geK S.N (topN S.N k + 1) q → geK S.N (M - r) q := fun z => ⟨geL_mono z.1 (by omega), geL_mono z.2.1 (by omega), geL_mono z.2.2 (by omega)⟩
      have gl := mono (partK_ge (v := false) hS.nodes hv tg)
      have gh := mono (partK_ge (v := true) hS.nodes hv tg)
      cases el : kcN S.C (partK S.N (topN S.N k) false k) with
      | some x =>
        cases eh : kcN S.C (partK S.N (topN S.N k) true k) with
        | some y =>
          obtain ⟨S', a, b, c, d⟩ := run_fin (W := W) hS hv h2 (by omega) (by omega) (by omega) el eh
          exact ⟨S', a, b.mono (by omega), c, d⟩
        | none =>
          have ea : advS S k = S := by unfold advS; rw [el, eh]
          have ew : advW S k = [partK S.N (topN S.N k) true k] := by unfold advW; rw [el, eh]; rfl
          obtain ⟨S1, a1, b1, ⟨y, c1⟩, d1⟩ := ih S _ (W ++ [k]) hS vh gh (by omega) (by omega) (by rw [List.length_append, List.length_singleton]; omega)
          have z := b1.len
          obtain ⟨x', ex'⟩ := b1.kc el
          have et := b1.top h2 hv
          rw [← et] at ex' c1
          rw [← b1.part hS.nodes hv] at ex' c1
          obtain ⟨S2, a2, b2, c2, d2⟩ := run_fin (W := W) a1 (b1.valid hv) h2 (by omega) (by omega) (by omega) ex' c1
          refine ⟨S2, a2, (b1.trans b2).mono (by omega), c2, fun T m rr => ?_⟩
          obtain ⟨n1, r1⟩ := d2 T m rr
          obtain ⟨n2, r2⟩ := d1 T n1 r1
          refine ⟨n2 + 1, .adv hk ⟨by omega, by omega⟩ (by omega) hv ?_⟩
          rw [ea, ew]; exact r2
      | none =>
        cases eh : kcN S.C (partK S.N (topN S.N k) true k) with
        | some y =>
          have ea : advS S k = S := by unfold advS; rw [el, eh]
          have ew : advW S k = [partK S.N (topN S.N k) false k] := by unfold advW; rw [el, eh]; rfl
          obtain ⟨S1, a1, b1, ⟨x, c1⟩, d1⟩ := ih S _ (W ++ [k]) hS vl gl (by omega) (by omega) (by rw [List.length_append, List.length_singleton]; omega)
          have z := b1.len
          obtain ⟨y', ey'⟩ := b1.kc eh
          have et := b1.top h2 hv
          rw [← et] at ey' c1
          rw [← b1.part hS.nodes hv] at ey' c1
          obtain ⟨S2, a2, b2, c2, d2⟩ := run_fin (W := W) a1 (b1.valid hv) h2 (by omega) (by omega) (by omega) c1 ey'
          refine ⟨S2, a2, (b1.trans b2).mono (by omega), c2, fun T m rr => ?_⟩
          obtain ⟨n1, r1⟩ := d2 T m rr
          obtain ⟨n2, r2⟩ := d1 T n1 r1
          refine ⟨n2 + 1, .adv hk ⟨by omega, by omega⟩ (by omega) hv ?_⟩
          rw [ea, ew]; exact r2
        | none =>
          have ea : advS S k = S := by unfold advS; rw [el, eh]
          have ew : advW S k = [partK S.N (topN S.N k) false k] ++ [partK S.N (topN S.N k) true k] := by unfold advW; rw [el, eh]
          obtain ⟨S1, a1, b1, ⟨y, c1⟩, d1⟩ := ih S _ (W ++ [k] ++ [partK S.N (topN S.N k) false k]) hS vh gh (by omega) (by omega) (by simp only [List.length_append, List.length_singleton]; omega)
          have z := b1.len
          obtain ⟨S2, a2, b2, ⟨x, c2⟩, d2⟩ := ih S1 _ (W ++ [k]) a1 (b1.valid vl) (b1.geK vl gl) (by omega) (by omega) (by rw [List.length_append, List.length_singleton]; omega)
          have z2 := b2.len
          obtain ⟨y', ey'⟩ := b2.kc c1
          have et := (b1.trans b2).top h2 hv
          rw [← et] at ey' c2
          rw [← (b1.trans b2).part hS.nodes hv] at ey' c2
          obtain ⟨S3, a3, b3, c3, d3⟩ := run_fin (W := W) a2 ((b1.trans b2).valid hv) h2 (by omega) (by omega) (by omega) c2 ey'
          refine ⟨S3, a3, ((b1.trans b2).trans b3).mono (by omega), c3, fun T m rr => ?_⟩
          obtain ⟨n1, r1⟩ := d3 T m rr
          obtain ⟨n2, r2⟩ := d2 T n1 r1
          obtain ⟨n3, r3⟩ := d1 T n2 r2
          refine ⟨n3 + 1, .adv hk ⟨by omega, by omega⟩ (by omega) hv ?_⟩
          rw [ea, ew, ← List.append_assoc]; exact r3
/-- choose ends, and is right -/
theorem choose_ex {M : Nat} {S : Sto} {k : K3} (hS : SOk M S) (hv : valid S.N k) (s1 : S.N.length + 2 ^ M + 100 < sizeLine) (s2 : S.C.length + 2 ^ M + 100 < sizeLine) (s3 : M < 1000000) :
    ∃ (n : Nat) (T : Sto) (v : Nat), Run n S [k] T ∧ kcN T.C k = some v ∧ SOk M T ∧ Grow S T (2 ^ M) ∧ Good T.N k v := by
  have e : (1000000 : Nat) * 2 + 40 < sizeLine := by decide
  obtain ⟨T, a, b, ⟨v, c⟩, d⟩ := run_ex M S k [] hS hv ⟨fun _ => by rw [Nat.sub_self]; exact Nat.zero_le _, fun _ => by rw [Nat.sub_self]; exact Nat.zero_le _, fun _ => by rw [Nat.sub_self]; exact Nat.zero_le _⟩ (by omega) (by omega) (by show 0 + 2 * M + 40 < sizeLine; omega)
  obtain ⟨n, r⟩ := d T 0 (.done T)
  exact ⟨n, T, v, r, c, a, b.mono (Nat.sub_le _ _), kc_good a (b.valid hv) c⟩

end
section
local macro_rules | `(tactic| walk_at "flk") => `(tactic| first | exact stF_lv _ | exact stF_lo _ | exact stF_hi _ | exact stF_nd _ | exact stF_ch _)
local macro_rules | `(tactic| walk_at "len") => `(tactic| first | omega | (simp only [Sto.lvs, Sto.los, Sto.his, List.length_map, ndD, ndG_len, chD, List.length_append, List.length_cons, List.length_nil]; omega))
local macro_rules | `(tactic| walk_at "ixl") => `(tactic| first | rfl | (refine lvs_at ?_ ?_ <;> omega) | (refine los_at ?_ ?_ <;> omega) | (refine his_at ?_ ?_ <;> omega))

/-! ### reduced stores: a function has one reference -/
structure NRed (N : List K3) : Prop where
  ne : ∀ x ∈ N, x.2.1 ≠ x.2.2
  nd : N.Nodup
theorem NRed.nil : NRed [] := ⟨(fun x h => by cases h), List.nodup_nil⟩
theorem nodeN_red {N : List K3} (h : NRed N) (x : K3) : NRed (nodeN N x).1 := by
  unfold nodeN
  by_cases e : x.2.1 = x.2.2
  · rw [if_pos e]; exact h
  · rw [if_neg e]
    by_cases hx : x ∈ N
    · rw [if_pos hx]; exact h
    · rw [if_neg hx]
      refine ⟨fun y hy => ?_, List.nodup_append.mpr ⟨h.nd, List.nodup_cons.mpr ⟨by simp, List.nodup_nil⟩, fun a ha c hc q => ?_⟩⟩
      · rcases List.mem_append.mp hy with hy | hy
        · exact h.ne y hy
        · obtain rfl := List.mem_singleton.mp hy; exact e
      · obtain rfl := List.mem_singleton.mp hc
        exact hx (q ▸ ha)
theorem advS_red {S : Sto} (h : NRed S.N) (k : K3) : NRed (advS S k).N := by
  unfold advS
  split
  · exact nodeN_red h _
  · exact h
theorem run_red {n : Nat} {S T : Sto} {W : List K3} (r : Run n S W T) : NRed S.N → NRed T.N := by
  induction r with
  | done => exact id
  | pop _ _ ih => exact ih
  | adv _ _ _ _ _ ih => exact fun h => ih (advS_red h _)
theorem getD_mem {N : List K3} {a : Nat} (h2 : 2 ≤ a) (h : a < N.length + 2) : N.getD (a - 2) (0, 0, 0) ∈ N := by
  rw [List.getD_eq_getElem?_getD, List.getElem?_eq_getElem (by omega)]
  exact List.getElem_mem _
theorem lh_ne {N : List K3} (h : NRed N) {a : Nat} (h2 : 2 ≤ a) (ha : a < N.length + 2) : loN N a ≠ hiN N a := h.ne _ (getD_mem h2 ha)
theorem same_triple {N : List K3} (h : NRed N) {a b : Nat} (h2 : 2 ≤ a) (ha : a < N.length + 2) (k2 : 2 ≤ b) (hb : b < N.length + 2) (e1 : lvN N a = lvN N b) (e2 : loN N a = loN N b) (e3 : hiN N a = hiN N b) : a = b := by
  unfold lvN loN hiN at *
  have ha' : a - 2 < N.length := by omega
  have hb' : b - 2 < N.length := by omega
  rw [List.getD_eq_getElem?_getD, List.getD_eq_getElem?_getD, List.getElem?_eq_getElem ha', List.getElem?_eq_getElem hb'] at e1 e2 e3
  have e : N[a - 2] = N[b - 2] := Prod.ext e1 (Prod.ext e2 e3)
  have := (List.getElem_inj h.nd).mp e
  omega
def putB (β : Nat → Bool) (l : Nat) (v : Bool) (j : Nat) : Bool := if j = l then v else β j
theorem ev_agree {M : Nat} {N : List K3} (hN : NOk M N) {β γ : Nat → Bool} : ∀ a, a < N.length + 2 → ∀ m, geL N m a → (∀ j, m ≤ j → β j = γ j) → ev N β a = ev N γ a := by
  intro a
  induction a using Nat.strongRecOn with
  | _ a ih =>
    intro ha m hm hj
    by_cases h2 : a < 2
    · rw [ev_one _ _ h2, ev_one _ _ h2]
    · have h2 : 2 ≤ a := by omega
      have ok := hN a h2 ha
      have l1 := ok.lo
      have l2 := ok.hi
      have hl := hm h2
      rw [ev_step hN β h2 ha, ev_step hN γ h2 ha, hj _ hl]
      cases γ (lvN N a)
      · exact ih (loN N a) l1 (Nat.lt_trans l1 ha) _ ok.llo fun j hj' => hj j (by omega)
      · exact ih (hiN N a) l2 (Nat.lt_trans l2 ha) _ ok.lhi fun j hj' => hj j (by omega)
theorem ev_put {M : Nat} {N : List K3} (hN : NOk M N) (β : Nat → Bool) (v : Bool) {a : Nat} (h2 : 2 ≤ a) (ha : a < N.length + 2) : ev N (putB β (lvN N a) v) a = ev N β (if v then hiN N a else loN N a) := by
  have ok := hN a h2 ha
  have l1 := ok.lo
  have l2 := ok.hi
  rw [ev_step hN _ h2 ha]
  have e : putB β (lvN N a) v (lvN N a) = v := by unfold putB; rw [if_pos rfl]
  rw [e]
  cases v
  · exact ev_agree hN (loN N a) (Nat.lt_trans l1 ha) _ ok.llo fun j hj => by unfold putB; rw [if_neg (by omega)]
  · exact ev_agree hN (hiN N a) (Nat.lt_trans l2 ha) _ ok.lhi fun j hj => by unfold putB; rw [if_neg (by omega)]
/-- equal functions have equal references -/
theorem canon {M : Nat} {N : List K3} (hN : NOk M N) (hR : NRed N) : ∀ n a b, a ≤ n → b ≤ n → a < N.length + 2 → b < N.length + 2 → (∀ β, ev N β a = ev N β b) → a = b := by
  intro n
  induction n with
  | zero => intro a b h1 h2 _ _ _; omega
  | succ n ih =>
    intro a b h1 h2 ha hb he
    -- the one on top does not depend on its coin: it cannot be
    have one : ∀ c d, c ≤ n + 1 → 2 ≤ c → c < N.length + 2 → d < N.length + 2 → geL N (lvN N c + 1) d → (∀ β, ev N β c = ev N β d) → False := fun c d hc c2 hcl hdl hg hcd => by
      have ok := hN c c2 hcl
      have l1 := ok.lo
      have l2 := ok.hi
      refine lh_ne hR c2 hcl (ih _ _ (by omega) (by omega) (by omega) (by omega) fun β => ?_)
      have e1 := ev_put hN β false c2 hcl
      have e2 := ev_put hN β true c2 hcl
      rw [if_neg (by decide)] at e1
      rw [if_pos rfl] at e2
      rw [← e1, ← e2, hcd, hcd]
      exact ev_agree hN d hdl _ hg fun j hj => by
        unfold putB; rw [if_neg (by omega), if_neg (by omega)]
    by_cases a2 : a < 2
    · by_cases b2 : b < 2
      · have := he fun _ => false
        rw [ev_one _ _ a2, ev_one _ _ b2] at this
        have : a = 0 ∨ a = 1 := by omega
        have : b = 0 ∨ b = 1 := by omega
        rcases ‹a = 0 ∨ a = 1› with rfl | rfl <;> rcases ‹b = 0 ∨ b = 1› with rfl | rfl <;> first | rfl | (exfalso; revert this; simp_all)
      · exact (one b a h2 (by omega) hb ha (fun z => absurd z (by omega)) fun β => (he β).symm).elim
    · have a2 : 2 ≤ a := by omega
      by_cases b2 : b < 2
      · exact (one a b h1 a2 ha hb (fun z => absurd z (by omega)) he).elim
      · have b2 : 2 ≤ b := by omega
        by_cases z1 : lvN N a < lvN N b
        · exact (one a b h1 a2 ha hb (fun _ => z1) he).elim
        · by_cases z2 : lvN N b < lvN N a
          · exact (one b a h2 b2 hb ha (fun _ => z2) fun β => (he β).symm).elim
          · have e : lvN N a = lvN N b := by omega
            have oka := hN a a2 ha
            have okb := hN b b2 hb
            have l1 := oka.lo
            have l2 := oka.hi
            have l3 := okb.lo
            have l4 := okb.hi
            refine same_triple hR a2 ha b2 hb e (ih _ _ (by omega) (by omega) (by omega) (by omega) fun β => ?_) (ih _ _ (by omega) (by omega) (by omega) (by omega) fun β => ?_)
            · have e1 := ev_put hN β false a2 ha
              have e2 := ev_put hN β false b2 hb
              rw [if_neg (by decide)] at e1 e2
              rw [← e1, ← e2, e, he]
            · have e1 := ev_put hN β true a2 ha
              have e2 := ev_put hN β true b2 hb
              rw [if_pos rfl] at e1 e2
              rw [← e1, ← e2, e, he]
/-- a function that does not depend on the coins below m has no level below m -/
theorem geL_of {M : Nat} {N : List K3} (hN : NOk M N) (hR : NRed N) {a m : Nat} (ha : a < N.length + 2) (h : ∀ l, l < m → ∀ β, ev N (putB β l false) a = ev N (putB β l true) a) : geL N m a := by
  intro a2
  refine Classical.byContradiction fun z => ?_
  have ok := hN a a2 ha
  have l1 := ok.lo
  have l2 := ok.hi
  refine lh_ne hR a2 ha (canon hN hR a _ _ (by omega) (by omega) (by omega) (by omega) fun β => ?_)
  have e1 := ev_put hN β false a2 ha
  have e2 := ev_put hN β true a2 ha
  rw [if_neg (by decide)] at e1
  rw [if_pos rfl] at e2
  rw [← e1, ← e2]
  exact h _ (by omega) β
/-- only the coins below M matter -/
theorem ev_below {M : Nat} {N : List K3} (hN : NOk M N) {β γ : Nat → Bool} (h : ∀ j, j < M → β j = γ j) : ∀ a, a < N.length + 2 → ev N β a = ev N γ a := by
  intro a
  induction a using Nat.strongRecOn with
  | _ a ih =>
    intro ha
    by_cases h2 : a < 2
    · rw [ev_one _ _ h2, ev_one _ _ h2]
    · have h2 : 2 ≤ a := by omega
      have ok := hN a h2 ha
      have l1 := ok.lo
      have l2 := ok.hi
      rw [ev_step hN β h2 ha, ev_step hN γ h2 ha, h _ ok.lv]
      cases γ (lvN N a)
      · exact ih (loN N a) l1 (Nat.lt_trans l1 ha)
      · exact ih (hiN N a) l2 (Nat.lt_trans l2 ha)

/-! ### the store's operations, by what they mean -/
section
variable {P : Program} {w : World} {K : PySem.W.Frag} {mg : Str → Option Value} {base : Heap} {C : Addr}
theorem Grow.ev {M : Nat} {S T : Sto} {g : Nat} (h : Grow S T g) (hS : SOk M S) (hT : SOk M T) (β : Nat → Bool) {x : Nat} (hx : x < S.N.length + 2) : ev T.N β x = ev S.N β x := by
  obtain ⟨⟨l, e, _⟩, _⟩ := h
  have q := hT.nodes
  rw [e] at q ⊢
  exact ev_app hS.nodes q β x hx
/-- room for a choice -/
def Sto.room (S : Sto) (M : Nat) : Prop := S.N.length + 2 ^ M + 100 < sizeLine ∧ S.C.length + 2 ^ M + 100 < sizeLine ∧ M < 1000000
/-- a choice made -/
structure ChR (M : Nat) (S T : Sto) (k : K3) (v : Nat) : Prop where
  ok : SOk M T
  grow : Grow S T (2 ^ M)
  lt : v < T.N.length + 2
  ev : ∀ β, ev T.N β v = if ev S.N β k.1 then ev S.N β k.2.1 else ev S.N β k.2.2
  red : NRed S.N → NRed T.N
def spBin (C : Addr) (f : Nat → Nat → K3) : ASp := fun xs R post _ => ∃ (a : Sad) (S : Sto) (M x y : Nat), xs = [.ptr a.s, .i x, .i y] ∧ R = Sto.rs C a S ∧ SOk M S ∧ S.room M ∧ valid S.N (f x y) ∧ ∀ T v, ChR M S T (f x y) v → post (.i v) (Sto.rs C a T)
def spUn (C : Addr) (f : Nat → K3) : ASp := fun xs R post _ => ∃ (a : Sad) (S : Sto) (M x : Nat), xs = [.ptr a.s, .i x] ∧ R = Sto.rs C a S ∧ SOk M S ∧ S.room M ∧ valid S.N (f x) ∧ ∀ T v, ChR M S T (f x) v → post (.i v) (Sto.rs C a T)
theorem mon_bin (C : Addr) (f : Nat → Nat → K3) : Mon (spBin C f) := fun xs R p p' e e' h _ ⟨a, S, M, x, y, h1, h2, h3, h4, h5, k⟩ => ⟨a, S, M, x, y, h1, h2, h3, h4, h5, fun T v z => h _ _ (k T v z)⟩
theorem mon_un (C : Addr) (f : Nat → K3) : Mon (spUn C f) := fun xs R p p' e e' h _ ⟨a, S, M, x, h1, h2, h3, h4, h5, k⟩ => ⟨a, S, M, x, h1, h2, h3, h4, h5, fun T v z => h _ _ (k T v z)⟩
theorem chR_of {M : Nat} {S T : Sto} {k : K3} {v : Nat} (hS : SOk M S) (hv : valid S.N k) (a : SOk M T) (b : Grow S T (2 ^ M)) (c : Good T.N k v) (r : NRed S.N → NRed T.N) : ChR M S T k v :=
  ⟨a, b, c.lt, fun β => by rw [c.ev β, b.ev hS a β hv.1, b.ev hS a β hv.2.1, b.ev hS a β hv.2.2], r⟩
theorem c_Store_both (d : Dm K C "both" "Store.both" s_Store_both ["self", "a", "b"]) (T : StoC K mg C) (m : Mcal P w K mg base 3 C "choose" ["self", "c", "a", "b"] (spChoose C)) : Mcal P w K mg base 4 C "both" ["self", "a", "b"] (spBin C fun x y => (x, y, 0)) := d.cal (mon_bin C _) fun f fd F => by
  obtain ⟨tc, t1, t2, t3, t4, t5, cF, cT⟩ := T
  refine okA F sc_Store_both lc_Store_both (fun xs R q e h => ?_) ?_
  · obtain ⟨a, S, M, x, y, rfl, _⟩ := h; rfl
  rintro X hX hU hr ⟨cdv, Ar, outer, s, H, E, rfl⟩ xs R post exc ⟨a, S, M, x, y, rfl, rfl, hS, hr', hv, kont⟩
  show ASs _ _ (defBody s_Store_both) [("self", some (.ptr a.s)), ("a", some (.i x)), ("b", some (.i y))] _ _
  walk_at "go"
  obtain ⟨n, T, v, r1, r2, r3, r4, r5⟩ := choose_ex hS hv hr'.1 hr'.2.1 hr'.2.2
  apply fsp_of (R0 := Sto.rs C a S)
  · walk_at "spl"
  refine ⟨a, S, T, n, _, _, 0, rfl, rfl, r1, ?_⟩
  rw [r2]
  exact ⟨_, Le.refl _, kont T v (chR_of hS hv r3 r4 r5 (run_red r1))⟩
theorem c_Store_without (d : Dm K C "without" "Store.without" s_Store_without ["self", "a", "b"]) (T : StoC K mg C) (m : Mcal P w K mg base 3 C "choose" ["self", "c", "a", "b"] (spChoose C)) : Mcal P w K mg base 4 C "without" ["self", "a", "b"] (spBin C fun x y => (y, 0, x)) := d.cal (mon_bin C _) fun f fd F => by
  obtain ⟨tc, t1, t2, t3, t4, t5, cF, cT⟩ := T
  refine okA F sc_Store_without lc_Store_without (fun xs R q e h => ?_) ?_
  · obtain ⟨a, S, M, x, y, rfl, _⟩ := h; rfl
  rintro X hX hU hr ⟨cdv, Ar, outer, s, H, E, rfl⟩ xs R post exc ⟨a, S, M, x, y, rfl, rfl, hS, hr', hv, kont⟩
  show ASs _ _ (defBody s_Store_without) [("self", some (.ptr a.s)), ("a", some (.i x)), ("b", some (.i y))] _ _
  walk_at "go"
  obtain ⟨n, T, v, r1, r2, r3, r4, r5⟩ := choose_ex hS hv hr'.1 hr'.2.1 hr'.2.2
  apply fsp_of (R0 := Sto.rs C a S)
  · walk_at "spl"
  refine ⟨a, S, T, n, _, 0, _, rfl, rfl, r1, ?_⟩
  rw [r2]
  exact ⟨_, Le.refl _, kont T v (chR_of hS hv r3 r4 r5 (run_red r1))⟩
theorem c_Store_either (d : Dm K C "either" "Store.either" s_Store_either ["self", "a", "b"]) (T : StoC K mg C) (m : Mcal P w K mg base 3 C "choose" ["self", "c", "a", "b"] (spChoose C)) : Mcal P w K mg base 4 C "either" ["self", "a", "b"] (spBin C fun x y => (x, 1, y)) := d.cal (mon_bin C _) fun f fd F => by
  obtain ⟨tc, t1, t2, t3, t4, t5, cF, cT⟩ := T
  refine okA F sc_Store_either lc_Store_either (fun xs R q e h => ?_) ?_
  · obtain ⟨a, S, M, x, y, rfl, _⟩ := h; rfl
  rintro X hX hU hr ⟨cdv, Ar, outer, s, H, E, rfl⟩ xs R post exc ⟨a, S, M, x, y, rfl, rfl, hS, hr', hv, kont⟩
  show ASs _ _ (defBody s_Store_either) [("self", some (.ptr a.s)), ("a", some (.i x)), ("b", some (.i y))] _ _
  walk_at "go"
  obtain ⟨n, T, v, r1, r2, r3, r4, r5⟩ := choose_ex hS hv hr'.1 hr'.2.1 hr'.2.2
  apply fsp_of (R0 := Sto.rs C a S)
  · walk_at "spl"
  refine ⟨a, S, T, n, _, 1, _, rfl, rfl, r1, ?_⟩
  rw [r2]
  exact ⟨_, Le.refl _, kont T v (chR_of hS hv r3 r4 r5 (run_red r1))⟩
theorem c_Store_negate (d : Dm K C "negate" "Store.negate" s_Store_negate ["self", "a"]) (T : StoC K mg C) (m : Mcal P w K mg base 3 C "choose" ["self", "c", "a", "b"] (spChoose C)) : Mcal P w K mg base 4 C "negate" ["self", "a"] (spUn C fun x => (x, 0, 1)) := d.cal (mon_un C _) fun f fd F => by
  obtain ⟨tc, t1, t2, t3, t4, t5, cF, cT⟩ := T
  refine okA F sc_Store_negate lc_Store_negate (fun xs R q e h => ?_) ?_
  · obtain ⟨a, S, M, x, rfl, _⟩ := h; rfl
  rintro X hX hU hr ⟨cdv, Ar, outer, s, H, E, rfl⟩ xs R post exc ⟨a, S, M, x, rfl, rfl, hS, hr', hv, kont⟩
  show ASs _ _ (defBody s_Store_negate) [("self", some (.ptr a.s)), ("a", some (.i x))] _ _
  walk_at "go"
  obtain ⟨n, T, v, r1, r2, r3, r4, r5⟩ := choose_ex hS hv hr'.1 hr'.2.1 hr'.2.2
  apply fsp_of (R0 := Sto.rs C a S)
  · walk_at "spl"
  refine ⟨a, S, T, n, _, 0, 1, rfl, rfl, r1, ?_⟩
  rw [r2]
  exact ⟨_, Le.refl _, kont T v (chR_of hS hv r3 r4 r5 (run_red r1))⟩
/-- a coin -/
def spCoin (C : Addr) : ASp := fun xs R post _ => ∃ (a : Sad) (S : Sto) (M l : Nat), xs = [.ptr a.s, .i l] ∧ R = Sto.rs C a S ∧ SOk M S ∧ S.small ∧ l < M ∧ ∀ T v, SOk M T → Grow S T 1 → v < T.N.length + 2 → (∀ β, ev T.N β v = β l) → (NRed S.N → NRed T.N) → post (.i v) (Sto.rs C a T)
theorem mon_coin (C : Addr) : Mon (spCoin C) := fun xs R p p' e e' h _ ⟨a, S, M, l, h1, h2, h3, h4, h5, k⟩ => ⟨a, S, M, l, h1, h2, h3, h4, h5, fun T v z1 z2 z3 z4 z5 => h _ _ (k T v z1 z2 z3 z4 z5)⟩
theorem sok_node {M : Nat} {S : Sto} {x : K3} (hS : SOk M S) (nd : NdR M S.N x) : SOk M ⟨(nodeN S.N x).1, S.C⟩ ∧ Grow S ⟨(nodeN S.N x).1, S.C⟩ 1 := by
  obtain ⟨l, e, n⟩ := nd.app
  refine ⟨⟨nd.ok, fun k v h => ?_⟩, ⟨l, e, n⟩, [], by simp, by simp⟩
  have hok := nd.ok
  show Good (nodeN S.N x).1 k v
  rw [e] at hok ⊢
  exact good_app hS.nodes hok (hS.ch k v h)
theorem c_Store_coin (d : Dm K C "coin" "Store.coin" s_Store_coin ["self", "level"]) (T : StoC K mg C) (m : Mcal P w K mg base 1 C "node" ["self", "level", "low", "high"] (spNode C)) : Mcal P w K mg base 2 C "coin" ["self", "level"] (spCoin C) := d.cal (mon_coin C) fun f fd F => by
  obtain ⟨tc, t1, t2, t3, t4, t5, cF, cT⟩ := T
  refine okA F sc_Store_coin lc_Store_coin (fun xs R q e h => ?_) ?_
  · obtain ⟨a, S, M, x, rfl, _⟩ := h; rfl
  rintro X hX hU hr ⟨cdv, Ar, outer, s, H, E, rfl⟩ xs R post exc ⟨a, S, M, l, rfl, rfl, hS, hs, hl, kont⟩
  show ASs _ _ (defBody s_Store_coin) [("self", some (.ptr a.s)), ("level", some (.i l))] _ _
  walk_at "go"
  apply fsp_of (R0 := Sto.rs C a S)
  · walk_at "spl"
  refine ⟨a, S, l, 0, 1, rfl, rfl, hs, ?_⟩
  have nd := nodeN_ok (x := (l, 0, 1)) hS.nodes (show 0 < S.N.length + 2 by omega) (show 1 < S.N.length + 2 by omega) (fun z => absurd (show 2 ≤ 0 from z) (by decide)) (fun z => absurd (show 2 ≤ 1 from z) (by decide)) hl
  obtain ⟨q1, q2⟩ := sok_node hS nd
  refine ⟨_, Le.refl _, kont _ _ q1 q2 nd.lt (fun β => ?_) fun h => nodeN_red h _⟩
  refine (nd.ev β).trans ?_
  show ev _ β (if β l then 1 else 0) = β l
  cases β l
  · rw [if_neg (by decide), ev_one _ _ (by decide)]; rfl
  · rw [if_pos rfl, ev_one _ _ (by decide)]; rfl
/-- the disjunction of a list -/
structure EoR (M : Nat) (S T : Sto) (rs : List Nat) (v : Nat) : Prop where
  ok : SOk M T
  grow : Grow S T (rs.length * 2 ^ M)
  lt : v < T.N.length + 2
  ev : ∀ β, ev T.N β v = rs.any fun x => AL.ev S.N β x
  red : NRed S.N → NRed T.N
theorem EoR.init {M : Nat} {S : Sto} (hS : SOk M S) : EoR M S S [] 0 := ⟨hS, (Grow.refl S).mono (Nat.zero_le _), by omega, fun β => by rw [ev_one _ _ (by decide)]; rfl, id⟩
theorem EoR.snoc {M : Nat} {S T U : Sto} {rs : List Nat} {v x u : Nat} (hS : SOk M S) (h : EoR M S T rs v) (hx : x < S.N.length + 2) (k : ChR M T U (v, 1, x) u) : EoR M S U (rs ++ [x]) u := by
  have hl := h.grow.len
  refine ⟨k.ok, ?_, k.lt, fun β => ?_, fun z => k.red (h.red z)⟩
  · rw [List.length_append, List.length_singleton, Nat.succ_mul]
    exact h.grow.trans k.grow
  · rw [k.ev β]
    show (if AL.ev T.N β v then AL.ev T.N β 1 else AL.ev T.N β x) = _
    rw [h.ev β, ev_one _ _ (show 1 < 2 by decide), h.grow.ev hS h.ok β hx, List.any_append]
    cases rs.any fun x => AL.ev S.N β x <;> simp
def spEithers (C : Addr) : ASp := fun xs R post _ => ∃ (a : Sad) (S : Sto) (M : Nat) (rs : List Nat), xs = [.ptr a.s, .l (rs.map fun v : Nat => .int v)] ∧ R = Sto.rs C a S ∧ SOk M S ∧ (∀ x ∈ rs, x < S.N.length + 2) ∧ S.N.length + (rs.length + 1) * 2 ^ M + 100 < sizeLine ∧ S.C.length + (rs.length + 1) * 2 ^ M + 100 < sizeLine ∧ M < 1000000 ∧
  ∀ T v, EoR M S T rs v → post (.i v) (Sto.rs C a T)
theorem mon_eithers (C : Addr) : Mon (spEithers C) := fun xs R p p' e e' h _ ⟨a, S, M, rs, h1, h2, h3, h4, h5, h6, h7, k⟩ => ⟨a, S, M, rs, h1, h2, h3, h4, h5, h6, h7, fun T v z => h _ _ (k T v z)⟩
theorem c_Store_either_of (d : Dm K C "either_of" "Store.either_of" s_Store_either_of ["self", "references"]) (T : StoC K mg C) (m : Mcal P w K mg base 4 C "either" ["self", "a", "b"] (spBin C fun x y => (x, 1, y))) : Mcal P w K mg base 5 C "either_of" ["self", "references"] (spEithers C) := d.cal (mon_eithers C) fun f fd F => by
  obtain ⟨tc, t1, t2, t3, t4, t5, cF, cT⟩ := T
  refine okA F sc_Store_either_of lc_Store_either_of (fun xs R q e h => ?_) ?_
  · obtain ⟨a, S, M, rs, rfl, _⟩ := h; rfl
  rintro X hX hU hr ⟨cdv, Ar, outer, s, H, E, rfl⟩ xs R post exc ⟨a, S, M, rs, rfl, rfl, hS, hrs, z1, z2, z3, kont⟩
  show ASs _ _ (defBody s_Store_either_of) [("self", some (.ptr a.s)), ("references", some (.l (rs.map fun v : Nat => .int v))), ("total", none), ("a", none)] _ _
  walk_at "go"
  refine as_for (fun i δ R => ∃ (T : Sto) (v : Nat) (u : Option AL.A), EoR M S T (rs.take i) v ∧ i ≤ rs.length ∧ δ = ([("self", some (.ptr a.s)), ("references", some (.l (rs.map fun v : Nat => .int v))), ("total", some (.i v)), ("a", u)] : SL) ∧ R = Sto.rs C a T) hX ?_
  refine ai_l ?_
  walk_at "go"
  refine ⟨_, rfl, Wk.self ⟨S, 0, _, EoR.init hS, Nat.zero_le _, rfl, rfl⟩, fun _ _ _ _ => trivial, ?_, ?_⟩
  · rintro i c δ R hc ⟨T, v, u, hE, hi, rfl, rfl⟩
    rw [List.map_map, List.getElem?_map] at hc
    obtain ⟨x, hx, rfl⟩ := Option.map_eq_some_iff.mp hc
    have hxl := hrs x (List.mem_of_getElem? hx)
    have hil := (List.getElem?_eq_some_iff.mp hx).1
    have hg := hE.grow.len
    have hlt := hE.lt
    have hmul : ((rs.take i).length + 1) * 2 ^ M ≤ (rs.length + 1) * 2 ^ M := Nat.mul_le_mul_right _ (by rw [List.length_take]; omega)
    rw [Nat.succ_mul] at hmul
    show AG _ _ _ (.i x) _ _ _
    walk_at "go"
    refine ⟨Sto.rs C a T, [], by walk_at "spl", a, T, M, v, x, rfl, rfl, hE.ok, ⟨by omega, by omega, z3⟩, ⟨hlt, by show 1 < _; omega, by show x < _; omega⟩, fun U u2 hU => ?_⟩
    walk_at "go"
    have := hE.snoc hS hxl hU
    refine Wk.self ⟨U, u2, _, ?_, hil, rfl, rfl⟩
    rw [List.take_succ, hx]
    exact this
  · rintro δ R ⟨T, v, u, hE, hi, rfl, rfl⟩
    rw [List.length_map, List.length_map, List.take_length] at hE
    walk_at "go"
    exact ⟨_, Le.refl _, kont T v hE⟩
end

/-! ### lists of data -/
theorem AsD.nats : ∀ gs : List Nat, AsD (gs.map fun v : Nat => A.i v) (gs.map fun v : Nat => .int v)
  | [] => .nil
  | _ :: r => .cons (AsD.nats r)
theorem AsD.ints (ws : List Int) : AsD (ws.map A.i) (ws.map .int) := by
  have := AsD.map (ws.map PyData.int)
  rwa [List.map_map] at this
theorem AsD.map2 {α : Type} : ∀ (l : List α) (f : α → PyData), AsD (l.map fun r => A.d (f r)) (l.map f)
  | [], _ => .nil
  | _ :: r, f => .cons (AsD.map2 r f)
theorem nats_inj : ∀ {l m : List Nat}, (l.map fun b : Nat => A.i b) = (m.map fun b : Nat => A.i b) → l = m
  | [], [], _ => rfl
  | [], _ :: _, h => by simp at h
  | _ :: _, [], h => by simp at h
  | a :: l, b :: m, h => by
    rw [List.map_cons, List.map_cons] at h
    injection h with h1 h2
    injection h1 with h1
    injection h1 with h1
    have : a = b := by omega
    rw [this, nats_inj h2]

/-! ### reading nodes; the nodes below one -/
section
variable {P : Program} {w : World} {K : PySem.W.Frag} {mg : Str → Option Value} {base : Heap} {C : Addr}
def spGet (C : Addr) (f : List K3 → Nat → Nat) : ASp := fun xs R post _ => ∃ (a : Sad) (S : Sto) (x : Nat), xs = [.ptr a.s, .i x] ∧ R = Sto.rs C a S ∧ 2 ≤ x ∧ x < S.N.length + 2 ∧ post (.i (f S.N x)) (Sto.rs C a S)
theorem mon_get (C : Addr) (f : List K3 → Nat → Nat) : Mon (spGet C f) := fun xs R p p' e e' h _ ⟨a, S, x, h1, h2, h3, h4, k⟩ => ⟨a, S, x, h1, h2, h3, h4, h _ _ k⟩
theorem c_Store_level (d : Dm K C "level" "Store.level" s_Store_level ["self", "a"]) (T : StoC K mg C) : Mcal P w K mg base 1 C "level" ["self", "a"] (spGet C lvN) := d.cal (mon_get C _) fun f fd F => by
  obtain ⟨tc, t1, t2, t3, t4, t5, cF, cT⟩ := T
  refine okA F sc_Store_level lc_Store_level (fun xs R q e h => ?_) ?_
  · obtain ⟨a, S, x, rfl, _⟩ := h; rfl
  rintro X hX hU hr ⟨cdv, Ar, outer, s, H, E, rfl⟩ xs R post exc ⟨a, S, x, rfl, rfl, h2, hx, kont⟩
  show ASs _ _ (defBody s_Store_level) [("self", some (.ptr a.s)), ("a", some (.i x))] _ _
  walk_at "go"
  refine ⟨fun h => ?_, fun h => ?_⟩
  · have := of_decide_eq_true h; omega
  walk_at "go"
  exact ⟨_, Le.refl _, kont⟩
theorem c_Store_low (d : Dm K C "low" "Store.low" s_Store_low ["self", "a"]) (T : StoC K mg C) : Mcal P w K mg base 1 C "low" ["self", "a"] (spGet C loN) := d.cal (mon_get C _) fun f fd F => by
  obtain ⟨tc, t1, t2, t3, t4, t5, cF, cT⟩ := T
  refine okA F sc_Store_low lc_Store_low (fun xs R q e h => ?_) ?_
  · obtain ⟨a, S, x, rfl, _⟩ := h; rfl
  rintro X hX hU hr ⟨cdv, Ar, outer, s, H, E, rfl⟩ xs R post exc ⟨a, S, x, rfl, rfl, h2, hx, kont⟩
  show ASs _ _ (defBody s_Store_low) [("self", some (.ptr a.s)), ("a", some (.i x))] _ _
  walk_at "go"
  refine ⟨fun h => ?_, fun h => ?_⟩
  · have := of_decide_eq_true h; omega
  walk_at "go"
  exact ⟨_, Le.refl _, kont⟩
theorem c_Store_high (d : Dm K C "high" "Store.high" s_Store_high ["self", "a"]) (T : StoC K mg C) : Mcal P w K mg base 1 C "high" ["self", "a"] (spGet C hiN) := d.cal (mon_get C _) fun f fd F => by
  obtain ⟨tc, t1, t2, t3, t4, t5, cF, cT⟩ := T
  refine okA F sc_Store_high lc_Store_high (fun xs R q e h => ?_) ?_
  · obtain ⟨a, S, x, rfl, _⟩ := h; rfl
  rintro X hX hU hr ⟨cdv, Ar, outer, s, H, E, rfl⟩ xs R post exc ⟨a, S, x, rfl, rfl, h2, hx, kont⟩
  show ASs _ _ (defBody s_Store_high) [("self", some (.ptr a.s)), ("a", some (.i x))] _ _
  walk_at "go"
  refine ⟨fun h => ?_, fun h => ?_⟩
  · have := of_decide_eq_true h; omega
  walk_at "go"
  exact ⟨_, Le.refl _, kont⟩
end
/-- a child that is a constant, or in one of two lists -/
def InL (x : Nat) (fs W : List Nat) : Prop := x < 2 ∨ x ∈ fs ∨ x ∈ W
structure BelI (N : List K3) (x : Nat) (fs W : List Nat) : Prop where
  nd : fs.Nodup
  rg : ∀ b ∈ fs, 2 ≤ b ∧ b < N.length + 2
  wr : ∀ b ∈ W, b < N.length + 2
  cl : ∀ b ∈ fs, InL (loN N b) fs W ∧ InL (hiN N b) fs W
  top : InL x fs W
  le : ∀ b, b ∈ fs ∨ b ∈ W → b ≤ x
theorem nodup_len : ∀ (n : Nat) {l : List Nat}, l.Nodup → (∀ b ∈ l, b < n) → l.length ≤ n
  | 0, [], _, _ => Nat.le_refl _
  | 0, a :: _, _, h => absurd (h a List.mem_cons_self) (Nat.not_lt_zero _)
  | n + 1, l, nd, h => by
    by_cases m : n ∈ l
    · have q := nodup_len n (nd.erase n) fun b hb => by
        have h1 := nd.mem_erase_iff.mp hb
        have h2 := h b h1.2
        have h3 := h1.1
        omega
      rw [List.length_erase_of_mem m] at q
      omega
    · have q := nodup_len n nd fun b hb => by
        have h2 := h b hb
        have h3 : b ≠ n := fun e => m (e ▸ hb)
        omega
      omega
theorem BelI.len {N : List K3} {x : Nat} {fs W : List Nat} (h : BelI N x fs W) : fs.length ≤ N.length := by
  have nd : (fs.map (· - 2)).Nodup := by
    have hr := h.rg
    have nd := h.nd
    clear h
    induction fs with
    | nil => exact List.nodup_nil
    | cons a r ih =>
      obtain ⟨n1, n2⟩ := List.nodup_cons.mp nd
      refine List.nodup_cons.mpr ⟨fun m => ?_, ih (fun b hb => hr b (List.mem_cons_of_mem _ hb)) n2⟩
      obtain ⟨b, hb, e⟩ := List.mem_map.mp m
      have h1 := hr a List.mem_cons_self
      have h2 := hr b (List.mem_cons_of_mem _ hb)
      have : b = a := by have e : b - 2 = a - 2 := e; omega
      exact n1 (this ▸ hb)
  have := nodup_len N.length nd fun b hb => by
    obtain ⟨c, hc, rfl⟩ := List.mem_map.mp hb
    have := h.rg c hc
    show c - 2 < _
    omega
  rwa [List.length_map] at this
theorem InL.drop {b x : Nat} {fs W : List Nat} (h : InL x fs (W ++ [b])) (hb : b < 2 ∨ b ∈ fs) : InL x fs W := by
  rcases h with h | h | h
  · exact .inl h
  · exact .inr (.inl h)
  · rcases List.mem_append.mp h with h | h
    · exact .inr (.inr h)
    · obtain rfl := List.mem_singleton.mp h
      exact hb.imp id .inl
theorem InL.push {b x y z : Nat} {fs W : List Nat} (h : InL x fs (W ++ [b])) : InL x (fs ++ [b]) (W ++ [y] ++ [z]) := by
  rcases h with h | h | h
  · exact .inl h
  · exact .inr (.inl (List.mem_append_left _ h))
  · rcases List.mem_append.mp h with h | h
    · exact .inr (.inr (List.mem_append_left _ (List.mem_append_left _ h)))
    · exact .inr (.inl (List.mem_append_right _ h))
theorem BelI.drop {N : List K3} {x b : Nat} {fs W : List Nat} (h : BelI N x fs (W ++ [b])) (hb : b < 2 ∨ b ∈ fs) : BelI N x fs W :=
  ⟨h.nd, h.rg, fun c hc => h.wr c (List.mem_append_left _ hc), fun c hc => ⟨(h.cl c hc).1.drop hb, (h.cl c hc).2.drop hb⟩, h.top.drop hb, fun c hc => h.le c (hc.imp id (List.mem_append_left _))⟩
theorem BelI.push {M : Nat} {N : List K3} {x b : Nat} {fs W : List Nat} (hN : NOk M N) (h : BelI N x fs (W ++ [b])) (h2 : 2 ≤ b) (hb : b ∉ fs) : BelI N x (fs ++ [b]) (W ++ [loN N b] ++ [hiN N b]) := by
  have hbl := h.wr b (List.mem_append_right _ List.mem_cons_self)
  have ok := hN b h2 hbl
  have l1 := ok.lo
  have l2 := ok.hi
  have hbx := h.le b (.inr (List.mem_append_right _ List.mem_cons_self))
  refine ⟨?_, fun c hc => ?_, fun c hc => ?_, fun c hc => ?_, h.top.push, fun c hc => ?_⟩
  · refine List.nodup_append.mpr ⟨h.nd, List.nodup_cons.mpr ⟨by simp, List.nodup_nil⟩, fun a ha c hc e => ?_⟩
    obtain rfl := List.mem_singleton.mp hc
    exact hb (e ▸ ha)
  · rcases List.mem_append.mp hc with hc | hc
    · exact h.rg c hc
    · obtain rfl := List.mem_singleton.mp hc; exact ⟨h2, hbl⟩
  · rcases List.mem_append.mp hc with hc | hc
    · rcases List.mem_append.mp hc with hc | hc
      · exact h.wr c (List.mem_append_left _ hc)
      · obtain rfl := List.mem_singleton.mp hc; omega
    · obtain rfl := List.mem_singleton.mp hc; omega
  · rcases List.mem_append.mp hc with hc | hc
    · exact ⟨(h.cl c hc).1.push, (h.cl c hc).2.push⟩
    · obtain rfl := List.mem_singleton.mp hc
      exact ⟨.inr (.inr (List.mem_append_left _ (List.mem_append_right _ List.mem_cons_self))), .inr (.inr (List.mem_append_right _ List.mem_cons_self))⟩
  · rcases hc with hc | hc
    · rcases List.mem_append.mp hc with hc | hc
      · exact h.le c (.inl hc)
      · obtain rfl := List.mem_singleton.mp hc; exact hbx
    · rcases List.mem_append.mp hc with hc | hc
      · rcases List.mem_append.mp hc with hc | hc
        · exact h.le c (.inr (List.mem_append_left _ hc))
        · obtain rfl := List.mem_singleton.mp hc; omega
      · obtain rfl := List.mem_singleton.mp hc; omega
def fdD (fs : List Nat) : List (Key × A) := fs.map fun b : Nat => (Sum.inl (b : Int), A.b true)
theorem fdD_lk (b : Nat) : ∀ fs : List Nat, (lkA (fdD fs) (Sum.inl (b : Int))).isSome = decide (b ∈ fs)
  | [] => by simp [fdD, lkA]
  | c :: r => by
    rw [show fdD (c :: r) = (Sum.inl (c : Int), A.b true) :: fdD r from rfl, lkA_cons, apply_ite Option.isSome, fdD_lk b r]
    by_cases h : c = b
    · subst h; simp
    · have h1 : ¬ ((Sum.inl (c : Int) : Key) = Sum.inl (b : Int)) := fun e => h (by have := Sum.inl.inj e; omega)
      rw [if_neg h1]
      by_cases h2 : b ∈ r
      · rw [decide_eq_true h2, decide_eq_true (List.mem_cons_of_mem _ h2)]
      · rw [decide_eq_false h2, decide_eq_false (fun z => (List.mem_cons.mp z).elim (fun q => h q.symm) h2)]
/-- what nodes_below hands back -/
structure BelR (N : List K3) (x : Nat) (bs : List Nat) : Prop where
  asc : bs.Pairwise (· < ·)
  rg : ∀ b ∈ bs, 2 ≤ b ∧ b < N.length + 2
  cl : ∀ b ∈ bs, (2 ≤ loN N b → loN N b ∈ bs) ∧ (2 ≤ hiN N b → hiN N b ∈ bs)
  top : 2 ≤ x → x ∈ bs
  le : ∀ b ∈ bs, b ≤ x
theorem bel_fin {N : List K3} {x : Nat} {fs : List Nat} {ys : List Int} (h : BelI N x fs []) (hp : ys.Perm (fs.map fun b : Nat => (b : Int))) (ha : ys.Pairwise (· ≤ ·)) : ∃ bs : List Nat, ys = bs.map (fun b : Nat => (b : Int)) ∧ BelR N x bs := by
  have hnn : ∀ y ∈ ys, ∃ b : Nat, b ∈ fs ∧ y = (b : Int) := fun y hy => by
    obtain ⟨b, hb, e⟩ := List.mem_map.mp (hp.mem_iff.mp hy)
    exact ⟨b, hb, e.symm⟩
  have e1 : ys = (ys.map Int.toNat).map (fun b : Nat => (b : Int)) := by
    rw [List.map_map]
    conv => lhs; rw [← List.map_id ys]
    refine List.map_congr_left fun y hy => ?_
    obtain ⟨b, _, rfl⟩ := hnn y hy
    rfl
  have hm : ∀ b, b ∈ ys.map Int.toNat ↔ b ∈ fs := fun b => by
    constructor
    · intro hb
      obtain ⟨y, hy, rfl⟩ := List.mem_map.mp hb
      obtain ⟨c, hc, rfl⟩ := hnn y hy
      exact hc
    · intro hb
      exact List.mem_map.mpr ⟨(b : Int), hp.mem_iff.mpr (List.mem_map.mpr ⟨b, hb, rfl⟩), rfl⟩
  have hin : ∀ {z : Nat}, InL z fs [] → 2 ≤ z → z ∈ ys.map Int.toNat := fun {z} hz h2 => by
    rcases hz with h | h | h
    · omega
    · exact (hm z).mpr h
    · cases h
  refine ⟨ys.map Int.toNat, e1, ⟨?_, fun b hb => h.rg b ((hm b).mp hb), fun b hb => ⟨hin (h.cl b ((hm b).mp hb)).1, hin (h.cl b ((hm b).mp hb)).2⟩, hin h.top, fun b hb => h.le b (.inl ((hm b).mp hb))⟩⟩
  have nd : ys.Nodup := by
    refine hp.nodup_iff.mpr ?_
    have nd := h.nd
    clear hp hnn e1 hm hin h ha
    induction fs with
    | nil => exact List.nodup_nil
    | cons a r ih =>
      obtain ⟨n1, n2⟩ := List.nodup_cons.mp nd
      refine List.nodup_cons.mpr ⟨fun m => ?_, ih n2⟩
      obtain ⟨b, hb, e⟩ := List.mem_map.mp m
      have : b = a := by have e : (b : Int) = (a : Int) := e; omega
      exact n1 (this ▸ hb)
  rw [List.pairwise_map]
  refine (ha.and nd).imp_of_mem fun {a b} m1 m2 ⟨q1, q2⟩ => ?_
  obtain ⟨x1, _, rfl⟩ := hnn a m1
  obtain ⟨x2, _, rfl⟩ := hnn b m2
  show x1 < x2
  have : x1 ≠ x2 := fun e => q2 (by rw [e])
  omega
section
variable {P : Program} {w : World} {K : PySem.W.Frag} {mg : Str → Option Value} {base : Heap} {C : Addr}
def spBelow (C : Addr) : ASp := fun xs R post _ => ∃ (a : Sad) (S : Sto) (M x : Nat), xs = [.ptr a.s, .i x] ∧ R = Sto.rs C a S ∧ NOk M S.N ∧ x < S.N.length + 2 ∧ S.N.length < 1000000 ∧ ∀ (q : Addr) (bs : List Nat), BelR S.N x bs → post (.ptr q) ((q, .lst (bs.map fun b : Nat => A.i b)) :: Sto.rs C a S)
theorem mon_below (C : Addr) : Mon (spBelow C) := fun xs R p p' e e' h _ ⟨a, S, M, x, h1, h2, h3, h4, h5, k⟩ => ⟨a, S, M, x, h1, h2, h3, h4, h5, fun q bs z => h _ _ (k q bs z)⟩
theorem c_Store_nodes_below (d : Dm K C "nodes_below" "Store.nodes_below" s_Store_nodes_below ["self", "a"]) (bS : mg "sorted" = none) (T : StoC K mg C) : Mcal P w K mg base 1 C "nodes_below" ["self", "a"] (spBelow C) := d.cal (mon_below C) fun f fd F => by
  obtain ⟨tc, t1, t2, t3, t4, t5, cF, cT⟩ := T
  refine okA F sc_Store_nodes_below lc_Store_nodes_below (fun xs R q e h => ?_) ?_
  · obtain ⟨a, S, M, x, rfl, _⟩ := h; rfl
  rintro X hX hU hr ⟨cdv, Ar, outer, s, H, E, rfl⟩ xs R post exc ⟨a, S, M, x, rfl, rfl, hN, hx, hs, kont⟩
  show ASs _ _ (defBody s_Store_nodes_below) [("self", some (.ptr a.s)), ("a", some (.i x)), ("found", none), ("waiting", none), ("b", none)] _ _
  walk_at "as"
  walk_at "as"
  refine ae_dnewK fun fd => ?_
  walk_at "go"
  refine ⟨by show 1 ≤ sizeLine; decide, fun wt => ?_⟩
  walk_at "go"
  refine as_while (fun m δ R => ∃ (fs W : List Nat) (bv : Option AL.A), BelI S.N x fs W ∧ W.length ≤ fs.length + 1 ∧ m = 3 * (S.N.length - fs.length) + W.length ∧ δ = ([("self", some (.ptr a.s)), ("a", some (.i x)), ("found", some (.ptr fd)), ("waiting", some (.ptr wt)), ("b", bv)] : SL) ∧
    R = (wt, .lst (W.map fun b : Nat => A.i b)) :: (fd, .dK (fdD fs)) :: Sto.rs C a S) hX ⟨_, Wk.self ⟨[], [x], none, ⟨List.nodup_nil, (fun b h => by cases h), (fun b h => by obtain rfl := List.mem_singleton.mp h; exact hx), (fun b h => by cases h), .inr (.inr List.mem_cons_self), fun b hb => hb.elim (fun z => by cases z) fun z => by obtain rfl := List.mem_singleton.mp z; exact Nat.le_refl _⟩, Nat.le_refl _, rfl, rfl, rfl⟩⟩ ?_
  rintro m δ R ⟨fs, W, bv, hI, hW, rfl, rfl, rfl⟩
  have hsz : 2000000 < sizeLine := by decide
  have hfl := hI.len
  rcases List.eq_nil_or_concat W with rfl | ⟨W, b, rfl⟩
  · walk_at "go"
    refine ⟨false, .inl ⟨_, List.mem_cons_self, rfl⟩, ?_⟩
    walk_at "go"
    refine ae_sortedB (by assumption) ?_
    walk_at "go"
    refine ca_sortedK (ks := fs.map fun b : Nat => (b : Int)) rfl (.there .here) (by unfold fdD; rw [List.map_map, List.map_map]; rfl) fun q ys hp ha => ?_
    obtain ⟨bs, rfl, hR⟩ := bel_fin hI hp ha
    walk_at "go"
    refine ⟨_, Le.cons .here (Le.trans Le.drop Le.drop), ?_⟩
    have := kont q bs hR
    rw [List.map_map]
    exact this
  · rw [List.concat_eq_append] at hI hW ⊢
    have hbl := hI.wr b (List.mem_append_right _ List.mem_cons_self)
    rw [List.length_append, List.length_singleton] at hW
    walk_at "go"
    refine ⟨true, .inl ⟨_, List.mem_cons_self, by simp⟩, ⟨fun _ => ?_, fun z => absurd z (by decide)⟩⟩
    walk_at "as"
    walk_at "as"
    refine ae_pop (ae_var (by walk_at "lk") (app_of .here (ma_pop (c := .i b) .here (by rw [List.map_append, List.length_append]; simp) ?_)))
    rw [show ((W ++ [b]).map fun b : Nat => A.i b).dropLast = W.map fun b : Nat => A.i b by rw [List.map_append]; simp]
    walk_at "go"
    have hdrop : b < 2 ∨ b ∈ fs → Wk (fun δ R => ∃ m', m' < 3 * (S.N.length - fs.length) + (W ++ [b]).length ∧ ∃ (fs W : List Nat) (bv : Option AL.A), BelI S.N x fs W ∧ W.length ≤ fs.length + 1 ∧ m' = 3 * (S.N.length - fs.length) + W.length ∧ δ = ([("self", some (.ptr a.s)), ("a", some (.i x)), ("found", some (.ptr fd)), ("waiting", some (.ptr wt)), ("b", bv)] : SL) ∧
      R = (wt, .lst (W.map fun b : Nat => A.i b)) :: (fd, .dK (fdD fs)) :: Sto.rs C a S) ([("self", some (.ptr a.s)), ("a", some (.i x)), ("found", some (.ptr fd)), ("waiting", some (.ptr wt)), ("b", some (.i b))] : SL) ((wt, .lst (W.map fun b : Nat => A.i b)) :: (fd, .dK (fdD fs)) :: Sto.rs C a S) := fun h =>
      Wk.self ⟨_, by rw [List.length_append, List.length_singleton]; omega, fs, W, _, hI.drop h, by omega, rfl, rfl, rfl⟩
    refine ⟨fun h2 => ?_, fun h2 => ⟨fun z => absurd z (by decide), fun _ => ?_⟩⟩
    · have h2 : 2 ≤ b := by have := of_decide_eq_true h2; omega
      walk_at "go"
      refine ba_ninK hU (ky := .inl (b : Int)) (.there .here) rfl ?_
      rw [fdD_lk]
      walk_at "go"
      refine ⟨fun h3 => ?_, fun h3 => ?_⟩
      · have hb : b ∉ fs := fun z => by rw [decide_eq_true z] at h3; cases h3
        have hP := hI.push hN h2 hb
        have hfl2 := hP.len
        rw [List.length_append, List.length_singleton] at hfl2
        walk_at "go"
        refine sta_dK hU (ky := .inl (b : Int)) (.there .here) rfl (by unfold fdD; rw [List.length_map]; omega) ?_
        have eput : putA (fdD fs) (.inl (b : Int)) (A.b true) = fdD (fs ++ [b]) := by
          rw [putA_new]
          · unfold fdD; rw [List.map_append]; rfl
          · have e := fdD_lk b fs
            rw [decide_eq_false hb] at e
            cases q : lkA (fdD fs) (Sum.inl (b : Int)) with
            | none => rfl
            | some z => rw [q] at e; cases e
        rw [eput]
        walk_at "go"
        refine Wk.self ⟨_, ?_, fs ++ [b], W ++ [loN S.N b] ++ [hiN S.N b], _, hP, ?_, rfl, rfl, ?_⟩
        · simp only [List.length_append, List.length_singleton]; omega
        · simp only [List.length_append, List.length_singleton]; omega
        · simp only [List.map_append]; rfl
      · have hb : b ∈ fs := by by_cases z : b ∈ fs; exact z; (rw [decide_eq_false z] at h3; cases h3)
        walk_at "go"
        exact hdrop (.inr hb)
    · have h2 : b < 2 := by have := of_decide_eq_false h2; omega
      walk_at "go"
      exact hdrop (.inl h2)
end

/-! ### ratios -/
/-- a ratio as the program has it -/
def dR (q : Rat) : PyData := .tuple [.int q.num, .int (q.den : Int)]
def RB (q : Rat) : Prop := q.num.natAbs < 2 ^ 4000 ∧ q.den < 2 ^ 4000
theorem rat_parts {t b : Int} (hb : 0 < b) : (Rat.divInt t b).num = t / (Nat.gcd t.natAbs b.natAbs : Nat) ∧ ((Rat.divInt t b).den : Int) = b / (Nat.gcd t.natAbs b.natAbs : Nat) := by
  obtain ⟨n, rfl⟩ := Int.eq_ofNat_of_zero_le (Int.le_of_lt hb)
  have hn : n ≠ 0 := by omega
  have e : Rat.divInt t (n : Int) = mkRat t n := rfl
  rw [e, Rat.num_mkRat, Rat.den_mkRat]
  simp [hn, Int.gcd, Nat.gcd_comm]
/-- a def that touches no resource: of two ratios -/
theorem RB.n {q : Rat} (h : RB q) : q.num.natAbs < 2 ^ 4000 := h.1
theorem RB.d {q : Rat} (h : RB q) : ((q.den : Int)).natAbs < 2 ^ 4000 := h.2
theorem RB.dd {a b : Rat} (ha : RB a) (hb : RB b) : ((a.den : Int) * (b.den : Int)).natAbs < 2 ^ 9000 := by
  have h := wide_lt ha.d hb.d
  exact Nat.lt_of_lt_of_le h (Nat.pow_le_pow_right (by decide) (by decide))
theorem den_ne (q : Rat) : (q.den : Int) ≠ 0 := by have := q.den_nz; omega
theorem rat_add (a b : Rat) : Rat.divInt (a.num * (b.den : Int) + b.num * (a.den : Int)) ((a.den : Int) * (b.den : Int)) = a + b := by
  rw [← Rat.divInt_add_divInt _ _ (den_ne a) (den_ne b), Rat.num_divInt_den, Rat.num_divInt_den]
theorem rat_sub (a b : Rat) : Rat.divInt (a.num * (b.den : Int) - b.num * (a.den : Int)) ((a.den : Int) * (b.den : Int)) = a - b := by
  rw [← Rat.divInt_sub_divInt _ _ (den_ne a) (den_ne b), Rat.num_divInt_den, Rat.num_divInt_den]
theorem rat_mul (a b : Rat) : Rat.divInt (a.num * b.num) ((a.den : Int) * (b.den : Int)) = a * b := by
  rw [← Rat.divInt_mul_divInt, Rat.num_divInt_den, Rat.num_divInt_den]
def sp2R (f : Rat → Rat → Rat) : ASp := pur fun xs q => ∃ a b : Rat, xs = [.d (dR a), .d (dR b)] ∧ RB a ∧ RB b ∧ q (.d (dR (f a b)))
theorem mon_2R (f : Rat → Rat → Rat) : Mon (sp2R f) := mon_pur fun xs q q' h ⟨t, b, h1, h3, h4, k⟩ => ⟨t, b, h1, h3, h4, h _ k⟩

section
variable {P : Program} {w : World} {K : PySem.W.Frag} {mg : Str → Option Value} {base : Heap}
def spRatio : ASp := pur fun xs q => ∃ t b : Int, xs = [.i t, .i b] ∧ b ≠ 0 ∧ b.natAbs < 2 ^ 9000 ∧ q (.d (dR (Rat.divInt t b)))
theorem mon_ratio : Mon spRatio := mon_pur fun xs q q' h ⟨t, b, h1, h3, h4, k⟩ => ⟨t, b, h1, h3, h4, h _ k⟩
theorem c_ratio (d : Df K mg "ratio" s_ratio ["top", "bottom"]) (hg : mg "gcd" = some (.builtin "math.gcd")) : Cal P w K mg base 1 "ratio" ["top", "bottom"] spRatio := d.cal mon_ratio fun f fd F => by
  refine okA F sc_ratio lc_ratio (fun xs R q e h => ?_) ?_
  · obtain ⟨rfl, t, b, rfl, _⟩ := h; rfl
  rintro X hX hU hr ⟨cdv, Ar, outer, s, H, E, rfl⟩ xs R post exc ⟨rfl, t, b, rfl, hb, hB, k⟩
  show ASs _ _ (defBody s_ratio) [("top", some (.i t)), ("bottom", some (.i b)), ("common", none)] _ _
  walk_at "go"
  refine ⟨fun h => absurd (of_decide_eq_true h) hb, fun _ => ?_⟩
  walk_at "go"
  have hg : ∀ t b : Int, 0 < b → b.natAbs < 2 ^ 9000 → CDivW t (Nat.gcd t.natAbs b.natAbs : Nat) ∧ CDivW b (Nat.gcd t.natAbs b.natAbs : Nat) := fun t b h0 h1 => by
    have g0 : 0 < Nat.gcd t.natAbs b.natAbs := Nat.gcd_pos_of_pos_right _ (by omega)
    have g1 : Nat.gcd t.natAbs b.natAbs ≤ b.natAbs := Nat.gcd_le_right _ (by omega)
    exact ⟨wide_div (by omega) (b := 9000) (by omega) (by decide) (by decide), wide_div (by omega) (b := 9000) (by omega) (by decide) (by decide)⟩
  have fin : ∀ t b : Int, 0 < b → Rat.divInt t b = Rat.divInt t b → dR (Rat.divInt t b) = .tuple [.int (t / (Nat.gcd t.natAbs b.natAbs : Nat)), .int (b / (Nat.gcd t.natAbs b.natAbs : Nat))] := fun t b h0 _ => by
    obtain ⟨e1, e2⟩ := rat_parts (t := t) h0
    unfold dR; rw [e1, e2]
  refine ⟨fun h => ?_, fun h => ?_⟩
  · have h0 : b < 0 := of_decide_eq_true h
    walk_at "go"
    obtain ⟨d1, d2⟩ := hg (-t) (-b) (by omega) (by omega)
    refine ba_fdivW d1 ?_
    walk_at "go"
    refine ba_fdivW d2 ?_
    walk_at "go"
    refine ⟨by show 2 ≤ sizeLine; decide, [], Le.refl _, ?_⟩
    show post (.d _) _
    rw [← fin (-t) (-b) (by omega) rfl, Rat.neg_divInt_neg]
    exact k
  · have h0 : 0 < b := by have := of_decide_eq_false h; omega
    walk_at "go"
    obtain ⟨d1, d2⟩ := hg t b h0 hB
    refine ba_fdivW d1 ?_
    walk_at "go"
    refine ba_fdivW d2 ?_
    walk_at "go"
    refine ⟨by show 2 ≤ sizeLine; decide, [], Le.refl _, ?_⟩
    show post (.d _) _
    rw [← fin t b h0 rfl]
    exact k
end

section
variable {P : Program} {w : World} {K : PySem.W.Frag} {mg : Str → Option Value} {base : Heap}

theorem c_times (d : Df K mg "times" s_times ["a", "b"]) (c1 : Cal P w K mg base 1 "ratio" ["top", "bottom"] spRatio) : Cal P w K mg base 2 "times" ["a", "b"] (sp2R (· * ·)) := d.cal (mon_2R _) fun f fd F => by
  refine okA F sc_times lc_times (fun xs R q e h => ?_) ?_
  · obtain ⟨rfl, t, b, rfl, _⟩ := h; rfl
  rintro X hX hU hr ⟨cdv, Ar, outer, s, H, E, rfl⟩ xs R post exc ⟨rfl, a, b, rfl, ha, hb, k⟩
  have a1 := ha.n
  have a2 := ha.d
  have b1 := hb.n
  have b2 := hb.d
  show ASs _ _ (defBody s_times) [("a", some (.d (dR a))), ("b", some (.d (dR b)))] _ _
  walk_at "go"
  refine ⟨_, _, rfl, Int.mul_ne_zero (den_ne a) (den_ne b), RB.dd ha hb, [], Le.refl _, ?_⟩
  rw [rat_mul]
  exact k
theorem c_minus (d : Df K mg "minus" s_minus ["a", "b"]) (c1 : Cal P w K mg base 1 "ratio" ["top", "bottom"] spRatio) : Cal P w K mg base 2 "minus" ["a", "b"] (sp2R (· - ·)) := d.cal (mon_2R _) fun f fd F => by
  refine okA F sc_minus lc_minus (fun xs R q e h => ?_) ?_
  · obtain ⟨rfl, t, b, rfl, _⟩ := h; rfl
  rintro X hX hU hr ⟨cdv, Ar, outer, s, H, E, rfl⟩ xs R post exc ⟨rfl, a, b, rfl, ha, hb, k⟩
  have a1 := ha.n
  have a2 := ha.d
  have b1 := hb.n
  have b2 := hb.d
  show ASs _ _ (defBody s_minus) [("a", some (.d (dR a))), ("b", some (.d (dR b)))] _ _
  walk_at "go"
  refine ⟨_, _, rfl, Int.mul_ne_zero (den_ne a) (den_ne b), RB.dd ha hb, [], Le.refl _, ?_⟩
  rw [rat_sub]
  exact k

end

end
section
local macro_rules | `(tactic| walk_at "flk") => `(tactic| first | exact stF_lv _ | exact stF_lo _ | exact stF_hi _ | exact stF_nd _ | exact stF_ch _)
local macro_rules | `(tactic| walk_at "len") => `(tactic| first | omega | (simp only [Sto.lvs, Sto.los, Sto.his, List.length_map, ndD, ndG_len, chD, List.length_append, List.length_cons, List.length_nil]; omega))
local macro_rules | `(tactic| walk_at "ixl") => `(tactic| first | rfl | (refine lvs_at ?_ ?_ <;> omega) | (refine los_at ?_ ?_ <;> omega) | (refine his_at ?_ ?_ <;> omega))

/-! ### the law's pool of numbers -/
section
variable {P : Program} {w : World} {K : PySem.W.Frag} {mg : Str → Option Value} {base : Heap}
/-- the pool: the script's numbers, the place, what is left, the count, the salt -/
structure Pl where
  ns : List Int
  at_ : Nat
  left : Int
  cnt : Int
  salt : Int
abbrev Pl.res (b : Addr) (p : Pl) : Res := .lst [.ptr b, .i p.at_, .i p.left, .i p.cnt, .i p.salt]
abbrev Pl.lst (p : Pl) : Res := .lst (p.ns.map A.i)
/-- the pool at a with its list at b -/
abbrev Pl.rs (a b : Addr) (p : Pl) : RL := [(a, p.res b), (b, p.lst)]
def Pl.ok (p : Pl) : Prop := p.ns.length ≤ 63
def spLawSpread : ASp := pur fun xs q => ∃ c : Int, xs = [.i c] ∧ ∀ z : Int, q (.i z)
theorem mon_lawSpread : Mon spLawSpread := mon_pur fun xs q q' h ⟨t, h1, k⟩ => ⟨t, h1, fun z => h _ (k z)⟩
theorem c__law_spread (d : Df K mg "_law_spread" s__law_spread ["cell"]) (B : Blt mg) : Cal P w K mg base 1 "_law_spread" ["cell"] spLawSpread := d.cal mon_lawSpread fun f fd F => by
  have bInt := B.int
  refine okA F sc__law_spread lc__law_spread (fun xs R q e h => ?_) ?_
  · obtain ⟨rfl, c, rfl, _⟩ := h; rfl
  rintro X hX hU hr ⟨cdv, Ar, outer, s, H, E, rfl⟩ xs R post exc ⟨rfl, c, rfl, kont⟩
  show ASs _ _ (defBody s__law_spread) [("cell", some (.i c)), ("mixed", none), ("total", none), ("k", none)] _ _
  walk_at "go"
  refine as_for (fun i δ R => ∃ (m t : Int) (k : Option AL.A), δ = ([("cell", some (.i c)), ("mixed", some (.i m)), ("total", some (.i t)), ("k", k)] : SL) ∧ R = []) hX ?_
  refine ai_range1 B.range ?_
  walk_at "go"
  refine ⟨_, rfl, by decide, by decide, Wk.self ⟨_, _, _, rfl, rfl⟩, fun _ _ _ _ => trivial, ?_, ?_⟩
  · rintro i x δ R hi ⟨m, t, k, rfl, rfl⟩
    obtain ⟨hi, rfl⟩ := rangeA_get hi
    walk_at "go"
    exact Wk.self ⟨_, _, _, rfl, rfl⟩
  · rintro δ R ⟨m, t, k, rfl, rfl⟩
    walk_at "go"
    exact ⟨_, Le.refl _, kont _⟩
/-- _law_pool(script) -/
def spLawPool : ASp := fun xs R post _ => ∃ ns : List Int, xs = [.l (ns.map .int)] ∧ R = [] ∧ ns.length ≤ 63 ∧ ∀ a b salt, post (.ptr a) (Pl.rs a b ⟨ns, 0, 0, 0, salt⟩)
theorem mon_lawPool : Mon spLawPool := fun xs R p p' e e' h _ ⟨ns, h1, h2, h3, k⟩ => ⟨ns, h1, h2, h3, fun a b s => h _ _ (k a b s)⟩
theorem c__law_pool (d : Df K mg "_law_pool" s__law_pool ["script"]) (B : Blt mg) : Cal P w K mg base 1 "_law_pool" ["script"] spLawPool := d.cal mon_lawPool fun f fd F => by
  have bInt := B.int
  have bList := B.list
  refine okA F sc__law_pool lc__law_pool (fun xs R q e h => ?_) ?_
  · obtain ⟨c, rfl, _⟩ := h; rfl
  rintro X hX hU hr ⟨cdv, Ar, outer, s, H, E, rfl⟩ xs R post exc ⟨ns, rfl, rfl, hn, kont⟩
  show ASs _ _ (defBody s__law_pool) [("script", some (.l (ns.map .int))), ("salt", none), ("cell", none)] _ _
  walk_at "go"
  refine as_for (fun i δ R => ∃ (m : Int) (k : Option AL.A), δ = ([("script", some (.l (ns.map .int))), ("salt", some (.i m)), ("cell", k)] : SL) ∧ R = []) hX ?_
  refine ai_l ?_
  refine ae_fz ?_
  walk_at "go"
  intro q
  refine ⟨q, _, _, _, rfl, .here, AsD.map _, _, rfl, Wk.self ⟨_, _, rfl, rfl⟩, fun _ _ _ _ => trivial, ?_, ?_⟩
  · rintro i x δ R hi ⟨m, k, rfl, rfl⟩
    rw [cutA_map, List.map_map, List.getElem?_map] at hi
    obtain ⟨z, _, rfl⟩ := Option.map_eq_some_iff.mp hi
    show AG _ _ _ (.i z) _ _ _
    walk_at "go"
    exact Wk.self ⟨_, _, rfl, rfl⟩
  · rintro δ R ⟨m, k, rfl, rfl⟩
    walk_at "go"
    intro b
    walk_at "go"
    refine ⟨by show 5 ≤ sizeLine; decide, fun a => ⟨_, Le.refl _, ?_⟩⟩
    have := kont a b m
    rw [List.map_map]
    exact this
/-- _law_draw(pool, many) -/
def spLawDraw : ASp := fun xs R post _ => ∃ (a b : Addr) (p : Pl) (m : Int), xs = [.ptr a, .i m] ∧ R = Pl.rs a b p ∧ 0 < m ∧ m < 1073741824 ∧ p.at_ ≤ p.ns.length ∧
  ∀ (z : Int) (p' : Pl), 0 ≤ z → z < m → p'.ns = p.ns → p'.at_ ≤ p'.ns.length → post (.i z) (Pl.rs a b p')
theorem mon_lawDraw : Mon spLawDraw := fun xs R p p' e e' h _ ⟨a, b, pl, m, h1, h2, h3, h4, h5, k⟩ => ⟨a, b, pl, m, h1, h2, h3, h4, h5, fun z p' k1 k2 k3 k4 => h _ _ (k z p' k1 k2 k3 k4)⟩
theorem c__law_draw (d : Df K mg "_law_draw" s__law_draw ["pool", "many"]) (B : Blt mg) (c1 : Cal P w K mg base 1 "_law_spread" ["cell"] spLawSpread) : Cal P w K mg base 2 "_law_draw" ["pool", "many"] spLawDraw := d.cal mon_lawDraw fun f fd F => by
  have bInt := B.int
  have bLen := B.len
  refine okA F sc__law_draw lc__law_draw (fun xs R q e h => ?_) ?_
  · obtain ⟨a, b, p, m, rfl, _⟩ := h; rfl
  rintro X hX hU hr ⟨cdv, Ar, outer, s, H, E, rfl⟩ xs R post exc ⟨a, b, p, m, rfl, rfl, hm, hm2, hat, kont⟩
  show ASs _ _ (defBody s__law_draw) [("pool", some (.ptr a)), ("many", some (.i m)), ("cell", none), ("mixed", none), ("value", none)] _ _
  unfold Pl.rs
  refine as_cut (fun δ R => ∃ (p' : Pl) (c : Option AL.A), δ = ([("pool", some (.ptr a)), ("many", some (.i m)), ("cell", c), ("mixed", none), ("value", none)] : SL) ∧ R = Pl.rs a b p' ∧ p'.ns = p.ns ∧ p'.at_ ≤ p'.ns.length) ?_ ?_
  · walk_at "go"
    refine ⟨fun h => ?_, fun h => ⟨fun z => absurd z (by decide), fun _ => ?_⟩⟩
    · walk_at "go"
      refine ⟨fun h2 => ?_, fun h2 => ?_⟩
      · have h3 : p.at_ < p.ns.length := by
          have := of_decide_eq_true h2
          rw [List.length_map] at this
          omega
        walk_at "go"
        refine ia_lst (.there .here) (atI_mapN h3) ?_
        walk_at "go"
        refine ⟨fun h4 => ?_, fun h4 => ?_⟩
        · walk_at "go"
          refine ⟨_, rfl, fun z => ?_⟩
          walk_at "go"
          exact Wk.self ⟨⟨p.ns, p.at_ + 1, z, p.cnt, p.salt⟩, _, rfl, rfl, rfl, h3⟩
        · walk_at "go"
          exact Wk.self ⟨⟨p.ns, p.at_ + 1, _, p.cnt, p.salt⟩, _, rfl, rfl, rfl, h3⟩
      · walk_at "go"
        exact Wk.self ⟨p, _, rfl, rfl, rfl, hat⟩
    · walk_at "go"
      exact Wk.self ⟨p, _, rfl, rfl, rfl, hat⟩
  · rintro δ R ⟨p', c, rfl, rfl, e1, e2⟩
    unfold Pl.rs
    walk_at "go"
    refine ⟨fun h => ?_, fun h => ?_⟩
    · walk_at "go"
      refine ba_mod hm ?_
      walk_at "go"
      exact ⟨_, Le.refl _, kont _ ⟨p'.ns, p'.at_, p'.left, p'.cnt + 1, p'.salt⟩ (Int.emod_nonneg _ (by omega)) (Int.emod_lt_of_pos _ hm) e1 e2⟩
    · walk_at "go"
      refine ba_mod hm ?_
      walk_at "go"
      refine ba_fdiv ⟨hm, hm2⟩ ?_
      walk_at "go"
      exact ⟨_, Le.refl _, kont _ ⟨p'.ns, p'.at_, p'.left / m, p'.cnt + 1, p'.salt⟩ (Int.emod_nonneg _ (by omega)) (Int.emod_lt_of_pos _ hm) e1 e2⟩
end

/-! ### the law's own gcd -/
theorem gcd_step {a b : Nat} (hb : 0 < b) : Nat.gcd b (a % b) = Nat.gcd a b := by
  rw [Nat.gcd_comm a b, Nat.gcd_rec b a, Nat.gcd_comm]
def GcdI (A0 B0 : Nat) (c : Nat) (i : Nat) (a b : Nat) : Prop :=
  Nat.gcd a b = Nat.gcd A0 B0 ∧ ((i = 0 ∧ a = A0 ∧ b = B0) ∨ (1 ≤ i ∧ b < a ∧ a * b * 2 ^ (i - 1) < 2 ^ c))
theorem GcdI.step {A0 B0 x y i a b : Nat} (hA : A0 < 2 ^ x) (hB : B0 < 2 ^ y) (h : GcdI A0 B0 (x + y) i a b) (hb : 0 < b) : GcdI A0 B0 (x + y) (i + 1) b (a % b) := by
  obtain ⟨h1, h2⟩ := h
  refine ⟨by rw [gcd_step hb]; exact h1, .inr ⟨by omega, Nat.mod_lt _ hb, ?_⟩⟩
  rcases h2 with ⟨rfl, rfl, rfl⟩ | ⟨h3, h4, h5⟩
  · have e1 : b * (a % b) ≤ a * b := by rw [Nat.mul_comm a b]; exact Nat.mul_le_mul_left _ (Nat.mod_le _ _)
    have e2 : a * b < 2 ^ (x + y) := by rw [Nat.pow_add]; exact Nat.mul_lt_mul'' hA hB
    simpa using Nat.lt_of_le_of_lt e1 e2
  · have e1 : 2 * (a % b) ≤ a := by
      have := Nat.div_add_mod a b
      have q : 1 ≤ a / b := Nat.div_pos (Nat.le_of_lt h4) hb
      have m := Nat.mod_lt a hb
      have : b * 1 ≤ b * (a / b) := Nat.mul_le_mul_left _ q
      omega
    obtain ⟨j, rfl⟩ : ∃ j, i = j + 1 := ⟨i - 1, by omega⟩
    have e2 : b * (a % b) * 2 ^ (j + 1 + 1 - 1) = b * (2 * (a % b)) * 2 ^ j := by
      show b * (a % b) * 2 ^ (j + 1) = _
      rw [Nat.pow_succ, Nat.mul_comm (2 ^ j) 2, ← Nat.mul_assoc, Nat.mul_assoc b (a % b) 2, Nat.mul_comm (a % b) 2]
    rw [e2]
    refine Nat.lt_of_le_of_lt ?_ h5
    show b * (2 * (a % b)) * 2 ^ j ≤ a * b * 2 ^ j
    rw [Nat.mul_comm a b]
    exact Nat.mul_le_mul_right _ (Nat.mul_le_mul_left _ e1)
theorem GcdI.done {A0 B0 c i a b : Nat} (h : GcdI A0 B0 c i a b) (hi : c + 1 ≤ i) : b = 0 := by
  obtain ⟨_, h2⟩ := h
  rcases h2 with ⟨rfl, _⟩ | ⟨h3, h4, h5⟩
  · omega
  · rcases Nat.eq_zero_or_pos b with e | hb
    · exact e
    · have e1 : 1 ≤ a * b := Nat.mul_pos (by omega) hb
      have e2 : 2 ^ c ≤ 2 ^ (i - 1) := Nat.pow_le_pow_right (by decide) (by omega)
      have e3 : 1 * 2 ^ (i - 1) ≤ a * b * 2 ^ (i - 1) := Nat.mul_le_mul_right _ e1
      omega
theorem lt_bits (n : Int) : n.natAbs < 2 ^ Builtin.Int.intBits n := by
  unfold Builtin.Int.intBits
  split
  · rename_i h
    have : n = 0 := by simpa using h
    subst this; decide
  · rename_i h
    have h0 : n ≠ 0 := by simpa using h
    exact (Nat.log2_lt (by omega)).mp (Nat.lt_succ_self _)
theorem abs_eq (m : Int) : (if m < 0 then -m else m) = (m.natAbs : Int) := by split <;> omega
section
variable {P : Program} {w : World} {K : PySem.W.Frag} {mg : Str → Option Value} {base : Heap}
def spLawGcd : ASp := pur fun xs q => ∃ a b : Int, xs = [.i a, .i b] ∧ a.natAbs < 2 ^ 100000 ∧ b.natAbs < 2 ^ 100000 ∧ q (.i (Nat.gcd a.natAbs b.natAbs : Nat))
theorem mon_lawGcd : Mon spLawGcd := mon_pur fun xs q q' h ⟨t, b, h1, h3, h4, k⟩ => ⟨t, b, h1, h3, h4, h _ k⟩
theorem bits_le5 {a : Int} (h : a.natAbs < 2 ^ 100000) : Builtin.Int.intBits a ≤ 100000 := PyProof.Rows.intBits_le h
theorem c__law_gcd (d : Df K mg "_law_gcd" s__law_gcd ["a", "b"]) (B : Blt mg) : Cal P w K mg base 1 "_law_gcd" ["a", "b"] spLawGcd := d.cal mon_lawGcd fun f fd F => by
  have bInt := B.int
  have bAbs := B.abs
  refine okA F sc__law_gcd lc__law_gcd (fun xs R q e h => ?_) ?_
  · obtain ⟨rfl, t, b, rfl, _⟩ := h; rfl
  rintro X hX hU hr ⟨cdv, Ar, outer, s, H, E, rfl⟩ xs R post exc ⟨rfl, a, b, rfl, hA, hB, kont⟩
  show ASs _ _ (defBody s__law_gcd) [("a", some (.i a)), ("b", some (.i b)), ("k", none), ("rest_v", none)] _ _
  walk_at "go"
  rw [abs_eq, abs_eq]
  have la := lt_bits (a.natAbs : Int)
  have lb := lt_bits (b.natAbs : Int)
  have ea := bits_le5 (a := (a.natAbs : Int)) hA
  have eb := bits_le5 (a := (b.natAbs : Int)) hB
  generalize hx : Builtin.Int.intBits (a.natAbs : Int) = x at la ea
  generalize hy : Builtin.Int.intBits (b.natAbs : Int) = y at lb eb
  refine as_for (fun i δ R => ∃ (a' b' : Nat) (k l : Option AL.A), δ = ([("a", some (.i (a' : Int))), ("b", some (.i (b' : Int))), ("k", k), ("rest_v", l)] : SL) ∧ R = [] ∧ GcdI a.natAbs b.natAbs (x + y) i a' b') hX ?_
  refine ai_range1 B.range ?_
  walk_at "go"
  rw [hx, hy]
  refine ⟨_, rfl, by omega, by omega, Wk.self ⟨_, _, none, none, rfl, rfl, rfl, .inl ⟨rfl, rfl, rfl⟩⟩, fun _ _ _ _ => trivial, ?_, ?_⟩
  · rintro i c δ R hi ⟨a', b', k, l, rfl, rfl, hI⟩
    obtain ⟨hi, rfl⟩ := rangeA_get hi
    walk_at "go"
    refine ⟨fun h0 => ?_, fun h0 => ?_⟩
    · have e : b' = 0 := by have := of_decide_eq_true h0; omega
      subst e
      walk_at "go"
      refine ⟨_, _, Le.refl _, Fg.refl _, Wk.self ?_⟩
      walk_at "go"
      refine ⟨_, Le.refl _, ?_⟩
      have e := hI.1
      rw [Nat.gcd_zero_right] at e
      subst e
      exact kont
    · have hb : 0 < b' := by have := of_decide_eq_false h0; omega
      walk_at "go"
      refine ba_mod (by omega) ?_
      walk_at "go"
      refine Wk.self ⟨b', a' % b', _, _, by rw [Int.natCast_emod], rfl, hI.step (by simpa using la) (by simpa using lb) hb⟩
  · rintro δ R ⟨a', b', k, l, rfl, rfl, hI⟩
    rw [rangeA_len] at hI
    have e := hI.done (by omega)
    subst e
    walk_at "go"
    refine ⟨_, Le.refl _, ?_⟩
    have e := hI.1
    rw [Nat.gcd_zero_right] at e
    subst e
    exact kont
end

section
variable {P : Program} {w : World} {K : PySem.W.Frag} {mg : Str → Option Value} {base : Heap}
def spLawFrac : ASp := pur fun xs q => ∃ t b : Int, xs = [.i t, .i b] ∧ b ≠ 0 ∧ t.natAbs < 2 ^ 100000 ∧ b.natAbs < 2 ^ 9000 ∧ q (.d (dR (Rat.divInt t b)))
theorem mon_lawFrac : Mon spLawFrac := mon_pur fun xs q q' h ⟨t, b, h1, h2, h3, h4, k⟩ => ⟨t, b, h1, h2, h3, h4, h _ k⟩
theorem big_of {b : Int} (h : b.natAbs < 2 ^ 9000) : b.natAbs < 2 ^ 100000 := Nat.lt_of_lt_of_le h (Nat.pow_le_pow_right (by decide) (by decide))
theorem c__law_frac (d : Df K mg "_law_frac" s__law_frac ["top", "bottom"]) (c1 : Cal P w K mg base 1 "_law_gcd" ["a", "b"] spLawGcd) : Cal P w K mg base 2 "_law_frac" ["top", "bottom"] spLawFrac := d.cal mon_lawFrac fun f fd F => by
  refine okA F sc__law_frac lc__law_frac (fun xs R q e h => ?_) ?_
  · obtain ⟨rfl, t, b, rfl, _⟩ := h; rfl
  rintro X hX hU hr ⟨cdv, Ar, outer, s, H, E, rfl⟩ xs R post exc ⟨rfl, t, b, rfl, hb, hT, hB, k⟩
  show ASs _ _ (defBody s__law_frac) [("top", some (.i t)), ("bottom", some (.i b)), ("common", none)] _ _
  walk_at "go"
  have hg : ∀ t b : Int, 0 < b → b.natAbs < 2 ^ 9000 → CDivW t (Nat.gcd t.natAbs b.natAbs : Nat) ∧ CDivW b (Nat.gcd t.natAbs b.natAbs : Nat) := fun t b h0 h1 => by
    have g0 : 0 < Nat.gcd t.natAbs b.natAbs := Nat.gcd_pos_of_pos_right _ (by omega)
    have g1 : Nat.gcd t.natAbs b.natAbs ≤ b.natAbs := Nat.gcd_le_right _ (by omega)
    exact ⟨wide_div (by omega) (b := 9000) (Nat.lt_of_le_of_lt g1 h1) (by decide) (by decide), wide_div (by omega) (b := 9000) (Nat.lt_of_le_of_lt g1 h1) (by decide) (by decide)⟩
  have fin : ∀ t b : Int, 0 < b → dR (Rat.divInt t b) = .tuple [.int (t / (Nat.gcd t.natAbs b.natAbs : Nat)), .int (b / (Nat.gcd t.natAbs b.natAbs : Nat))] := fun t b h0 => by
    obtain ⟨e1, e2⟩ := rat_parts (t := t) h0
    unfold dR; rw [e1, e2]
  refine ⟨fun h => ?_, fun h => ?_⟩
  · have h0 : b < 0 := of_decide_eq_true h
    walk_at "go"
    refine ⟨_, _, rfl, (by rw [Int.natAbs_neg]; exact hT), (by rw [Int.natAbs_neg]; exact big_of hB), ?_⟩
    walk_at "go"
    obtain ⟨d1, d2⟩ := hg (-t) (-b) (by omega) (by rw [Int.natAbs_neg]; exact hB)
    refine ba_fdivW d1 ?_
    walk_at "go"
    refine ba_fdivW d2 ?_
    walk_at "go"
    refine ⟨le_two, [], Le.refl _, ?_⟩
    show post (.d _) _
    rw [← fin (-t) (-b) (by omega), Rat.neg_divInt_neg]
    exact k
  · have h0 : 0 < b := by have := of_decide_eq_false h; omega
    walk_at "go"
    refine ⟨_, _, rfl, hT, big_of hB, ?_⟩
    walk_at "go"
    obtain ⟨d1, d2⟩ := hg t b h0 hB
    refine ba_fdivW d1 ?_
    walk_at "go"
    refine ba_fdivW d2 ?_
    walk_at "go"
    refine ⟨le_two, [], Le.refl _, ?_⟩
    show post (.d _) _
    rw [← fin t b h0]
    exact k
theorem RB.tt {a b : Rat} (ha : RB a) (hb : RB b) : (a.num * b.num).natAbs < 2 ^ 100000 := Nat.lt_of_lt_of_le (wide_lt ha.n hb.n) (Nat.pow_le_pow_right (by decide) (by decide))
theorem RB.ts {a b : Rat} (ha : RB a) (hb : RB b) : (a.num * (b.den : Int) + b.num * (a.den : Int)).natAbs < 2 ^ 100000 := by
  have h1 := wide_lt ha.n hb.d
  have h2 := wide_lt hb.n ha.d
  have h3 := Int.natAbs_add_le (a.num * (b.den : Int)) (b.num * (a.den : Int))
  have h4 : 2 ^ (4000 + 4000) + 2 ^ (4000 + 4000) ≤ 2 ^ 100000 := by
    rw [← Nat.two_mul, Nat.mul_comm, ← Nat.pow_succ]
    exact Nat.pow_le_pow_right (by decide) (by decide)
  exact Nat.lt_of_lt_of_le (Nat.lt_of_le_of_lt h3 (Nat.add_lt_add h1 h2)) h4
end

/-! ### _law_same -/
mutual
/-- no dict, nested at most n deep -/
def dpt : PyData → Nat
  | .list xs => dptL xs + 1
  | .tuple xs => dptL xs + 1
  | _ => 0
def dptL : List PyData → Nat
  | [] => 0
  | x :: xs => max (dpt x) (dptL xs)
end
mutual
def nod : PyData → Bool
  | .list xs => decide (xs.length < 1000000) && nodL xs
  | .tuple xs => decide (xs.length < 1000000) && nodL xs
  | .dict _ => false
  | _ => true
def nodL : List PyData → Bool
  | [] => true
  | x :: xs => nod x && nodL xs
end
theorem dptL_mem : ∀ {xs : List PyData} {x : PyData}, x ∈ xs → dpt x ≤ dptL xs
  | y :: ys, x, h => by
    rw [dptL]
    rcases List.mem_cons.mp h with e | h
    · subst e; exact Nat.le_max_left _ _
    · exact Nat.le_trans (dptL_mem h) (Nat.le_max_right _ _)
theorem nodL_mem : ∀ {xs : List PyData} {x : PyData}, nodL xs = true → x ∈ xs → nod x = true
  | y :: ys, x, hn, h => by
    rw [nodL, Bool.and_eq_true] at hn
    rcases List.mem_cons.mp h with e | h
    · subst e; exact hn.1
    · exact nodL_mem hn.2 h
section
variable {P : Program} {w : World} {K : PySem.W.Frag} {mg : Str → Option Value} {base : Heap}
def spSame (n : Nat) : ASp := pur fun xs q => ∃ x y : PyData, xs = [.d x, .d y] ∧ nod x = true ∧ nod y = true ∧ dpt y ≤ n ∧ ∀ b : Bool, (b = true ↔ x = y) → q (.b b)
theorem mon_same (n : Nat) : Mon (spSame n) := mon_pur fun xs q q' h ⟨x, y, h1, h2, h3, h4, k⟩ => ⟨x, y, h1, h2, h3, h4, fun b hb => h _ (k b hb)⟩
theorem c__law_same (d : Df K mg "_law_same" s__law_same ["actual", "due"]) (B : Blt mg) (n : Nat) : Cal P w K mg base (n + 1) "_law_same" ["actual", "due"] (spSame n) := by
  induction n using Nat.strongRecOn with
  | _ n ih =>
  refine d.cal (mon_same n) fun f fd F => ?_
  have bInt := B.int
  have bLen := B.len
  have bBool := B.bool
  have bStr := B.str
  have bList := B.list
  have bTuple := B.tuple
  have bIs := B.isinstance
  refine okA F sc__law_same lc__law_same (fun xs R q e h => ?_) ?_
  · obtain ⟨rfl, x, y, rfl, _⟩ := h; rfl
  rintro X hX hU hr ⟨cdv, Ar, outer, s, H, E, rfl⟩ xs R post exc ⟨rfl, x, y, rfl, nx, ny, hd, k⟩
  show ASs _ _ (defBody s__law_same) [("actual", some (.d x)), ("due", some (.d y)), ("k", none)] _ _
  cases y with
  | none =>
    walk_at "go"
    exact ⟨_, Le.refl _, k _ (by cases x <;> simp [isNone])⟩
  | bool b =>
    walk_at "go"
    refine ⟨fun h => ?_, fun h => ⟨_, Le.refl _, k false ⟨fun z => (by cases z), fun z => (by subst z; cases h)⟩⟩⟩
    obtain ⟨c, rfl⟩ : ∃ c, x = .bool c := by cases x <;> first | exact ⟨_, rfl⟩ | cases h
    walk_at "go"
    exact ⟨_, Le.refl _, k _ (by cases c <;> cases b <;> simp)⟩
  | int b =>
    walk_at "go"
    refine ⟨fun h => ?_, fun h => ⟨_, Le.refl _, k false ⟨fun z => (by cases z), fun z => (by subst z; cases h)⟩⟩⟩
    walk_at "go"
    refine ⟨fun h2 => ?_, fun h2 => ⟨_, Le.refl _, k false ⟨fun z => (by cases z), fun z => (by subst z; cases h2)⟩⟩⟩
    obtain ⟨c, rfl⟩ : ∃ c, x = .int c := by cases x <;> first | exact ⟨_, rfl⟩ | (cases h; done) | (cases h2; done)
    walk_at "go"
    exact ⟨_, Le.refl _, k _ (by simp)⟩
  | str b =>
    walk_at "go"
    refine ⟨fun h => ?_, fun h => ⟨_, Le.refl _, k false ⟨fun z => (by cases z), fun z => (by subst z; cases h)⟩⟩⟩
    obtain ⟨c, rfl⟩ : ∃ c, x = .str c := by cases x <;> first | exact ⟨_, rfl⟩ | cases h
    walk_at "go"
    exact ⟨_, Le.refl _, k _ (by simp)⟩
  | dict b => cases ny
  | tuple ys =>
    walk_at "go"
    refine ⟨fun h1 => ?_, fun h1 => ?_⟩
    · obtain ⟨xs, rfl⟩ : ∃ xs, x = .tuple xs := by cases x <;> first | exact ⟨_, rfl⟩ | (cases h1; done)
      walk_at "go"
      refine ⟨fun h => ?_, fun h => ?_⟩
      · walk_at "go"
        refine ⟨_, Le.refl _, k false ⟨fun z => (by cases z), fun z => ?_⟩⟩
        cases z
        simp at h
      · have hl : xs.length = ys.length := by simp at h; omega
        walk_at "go"
        have ih1 := ih (n - 1) (by rw [dpt] at hd; omega)
        have hn1 : 1 ≤ n := by rw [dpt] at hd; omega
        rw [nod, Bool.and_eq_true, decide_eq_true_eq] at nx ny
        obtain ⟨lx, nx⟩ := nx
        obtain ⟨ly, ny⟩ := ny
        refine as_for (fun i δ R => ∃ (k : Option AL.A), δ = ([("actual", some (.d (.tuple xs))), ("due", some (.d (.tuple ys))), ("k", k)] : SL) ∧ R = [] ∧ ∀ j, j < i → xs[j]? = ys[j]?) hX ?_
        refine ai_range1 B.range ?_
        walk_at "go"
        refine ⟨_, rfl, by omega, by omega, Wk.self ⟨_, rfl, rfl, fun j hj => absurd hj (by omega)⟩, fun _ _ _ _ => trivial, ?_, ?_⟩
        · rintro i c δ R hi ⟨kk, rfl, rfl, hI⟩
          obtain ⟨hi, rfl⟩ := rangeA_get hi
          have hiy : i < ys.length := by omega
          have hix : i < xs.length := by omega
          rw [Int.zero_add]
          walk_at "as"
          walk_at "as"
          walk_at "as"
          walk_at "at"
          walk_at "at"
          refine ae_callP ih1 hr (by omega) ?_
          walk_at "go"
          refine ia_t (atI_N hix) ?_
          walk_at "go"
          refine ia_t (atI_N hiy) ?_
          walk_at "go"
          refine ⟨_, _, rfl, nodL_mem nx (List.getElem_mem hix), nodL_mem ny (List.getElem_mem hiy), ?_, fun b hb => ?_⟩
          · have := dptL_mem (List.getElem_mem hiy)
            rw [dpt] at hd
            omega
          walk_at "go"
          refine ⟨fun h => ?_, fun h => ?_⟩
          · have hb' : ¬ xs[i] = ys[i] := fun z => by rw [hb.mpr z] at h; cases h
            walk_at "go"
            refine ⟨_, Le.refl _, k false ⟨fun z => (by cases z), fun z => ?_⟩⟩
            cases z
            exact absurd rfl hb'
          · have hb' : xs[i] = ys[i] := hb.mp (by cases b <;> first | rfl | cases h)
            walk_at "go"
            refine Wk.self ⟨_, rfl, rfl, fun j hj => ?_⟩
            by_cases z : j = i
            · subst z; rw [List.getElem?_eq_getElem hix, List.getElem?_eq_getElem hiy, hb']
            · exact hI j (by omega)
        · rintro δ R ⟨kk, rfl, rfl, hI⟩
          rw [rangeA_len] at hI
          walk_at "go"
          refine ⟨_, Le.refl _, k true ⟨fun _ => ?_, fun _ => rfl⟩⟩
          congr 1
          refine List.ext_getElem? fun j => ?_
          by_cases hj : j < ys.length
          · exact hI j (by omega)
          · rw [List.getElem?_eq_none (by omega), List.getElem?_eq_none (by omega)]
    · walk_at "go"
      exact ⟨_, Le.refl _, k false ⟨fun z => (by cases z), fun z => (by subst z; cases h1)⟩⟩
  | list ys =>
    walk_at "go"
    refine ⟨fun h0 => ?_, fun h1 => ?_⟩
    · walk_at "go"
      refine ⟨fun h1 => ?_, fun h1 => ?_⟩
      · walk_at "go"
        exact ⟨_, Le.refl _, k false ⟨fun z => (by cases z), fun z => (by subst z; cases h1)⟩⟩
      · obtain ⟨xs, rfl⟩ : ∃ xs, x = .list xs := by cases x <;> first | exact ⟨_, rfl⟩ | (cases h1; done)
        walk_at "go"
        refine ⟨fun h => ?_, fun h => ?_⟩
        · walk_at "go"
          refine ⟨_, Le.refl _, k false ⟨fun z => (by cases z), fun z => ?_⟩⟩
          cases z
          simp at h
        · have hl : xs.length = ys.length := by simp at h; omega
          walk_at "go"
          have ih1 := ih (n - 1) (by rw [dpt] at hd; omega)
          have hn1 : 1 ≤ n := by rw [dpt] at hd; omega
          rw [nod, Bool.and_eq_true, decide_eq_true_eq] at nx ny
          obtain ⟨lx, nx⟩ := nx
          obtain ⟨ly, ny⟩ := ny
          refine as_for (fun i δ R => ∃ (k : Option AL.A), δ = ([("actual", some (.d (.list xs))), ("due", some (.d (.list ys))), ("k", k)] : SL) ∧ R = [] ∧ ∀ j, j < i → xs[j]? = ys[j]?) hX ?_
          refine ai_range1 B.range ?_
          walk_at "go"
          refine ⟨_, rfl, by omega, by omega, Wk.self ⟨_, rfl, rfl, fun j hj => absurd hj (by omega)⟩, fun _ _ _ _ => trivial, ?_, ?_⟩
          · rintro i c δ R hi ⟨kk, rfl, rfl, hI⟩
            obtain ⟨hi, rfl⟩ := rangeA_get hi
            have hiy : i < ys.length := by omega
            have hix : i < xs.length := by omega
            rw [Int.zero_add]
            walk_at "as"
            walk_at "as"
            walk_at "as"
            walk_at "at"
            walk_at "at"
            refine ae_callP ih1 hr (by omega) ?_
            walk_at "go"
            refine ia_l (atI_N hix) ?_
            walk_at "go"
            refine ia_l (atI_N hiy) ?_
            walk_at "go"
            refine ⟨_, _, rfl, nodL_mem nx (List.getElem_mem hix), nodL_mem ny (List.getElem_mem hiy), ?_, fun b hb => ?_⟩
            · have := dptL_mem (List.getElem_mem hiy)
              rw [dpt] at hd
              omega
            walk_at "go"
            refine ⟨fun h => ?_, fun h => ?_⟩
            · have hb' : ¬ xs[i] = ys[i] := fun z => by rw [hb.mpr z] at h; cases h
              walk_at "go"
              refine ⟨_, Le.refl _, k false ⟨fun z => (by cases z), fun z => ?_⟩⟩
              cases z
              exact absurd rfl hb'
            · have hb' : xs[i] = ys[i] := hb.mp (by cases b <;> first | rfl | cases h)
              walk_at "go"
              refine Wk.self ⟨_, rfl, rfl, fun j hj => ?_⟩
              by_cases z : j = i
              · subst z; rw [List.getElem?_eq_getElem hix, List.getElem?_eq_getElem hiy, hb']
              · exact hI j (by omega)
          · rintro δ R ⟨kk, rfl, rfl, hI⟩
            rw [rangeA_len] at hI
            walk_at "go"
            refine ⟨_, Le.refl _, k true ⟨fun _ => ?_, fun _ => rfl⟩⟩
            congr 1
            refine List.ext_getElem? fun j => ?_
            by_cases hj : j < ys.length
            · exact hI j (by omega)
            · rw [List.getElem?_eq_none (by omega), List.getElem?_eq_none (by omega)]
    · walk_at "go"
      exact ⟨_, Le.refl _, k false ⟨fun z => (by cases z), fun z => (by subst z; cases h1)⟩⟩
end

/-! ### ratios over a fixed denominator -/
def IntD (D : Nat) (q : Rat) : Prop := ∃ z : Int, q * (D : Rat) = (z : Rat)
theorem IntD.add {D : Nat} {a b : Rat} (h : IntD D a) (k : IntD D b) : IntD D (a + b) := by
  obtain ⟨x, hx⟩ := h
  obtain ⟨y, hy⟩ := k
  exact ⟨x + y, by rw [Rat.add_mul, hx, hy, Rat.intCast_add]⟩
theorem IntD.neg {D : Nat} {a : Rat} (h : IntD D a) : IntD D (-a) := by
  obtain ⟨x, hx⟩ := h
  exact ⟨-x, by rw [Rat.neg_mul, hx, Rat.intCast_neg]⟩
theorem IntD.mul {D E : Nat} {a b : Rat} (h : IntD D a) (k : IntD E b) : IntD (D * E) (a * b) := by
  obtain ⟨x, hx⟩ := h
  obtain ⟨y, hy⟩ := k
  refine ⟨x * y, ?_⟩
  rw [Rat.intCast_mul, ← hx, ← hy, Rat.natCast_mul]
  rw [Rat.mul_assoc, Rat.mul_assoc]
  congr 1
  rw [← Rat.mul_assoc, Rat.mul_comm b, Rat.mul_assoc]
theorem IntD.zero (D : Nat) : IntD D 0 := ⟨0, by rw [Rat.zero_mul]; rfl⟩
theorem IntD.one (D : Nat) : IntD D 1 := ⟨D, by rw [Rat.one_mul]; rfl⟩
theorem rat_mul_den (q : Rat) : q * ((q.den : Int) : Rat) = (q.num : Rat) := by
  have h : ((q.den : Int) : Rat) ≠ 0 := fun z => den_ne q (Rat.intCast_inj.mp (z.trans rfl))
  have e : q = (q.num : Rat) / ((q.den : Int) : Rat) := by rw [← Rat.divInt_eq_div, Rat.num_divInt_den]
  conv => lhs; lhs; rw [e]
  rw [Rat.div_def, Rat.mul_assoc, Rat.inv_mul_cancel _ h, Rat.mul_one]
theorem IntD.dvd {D : Nat} {q : Rat} (h : IntD D q) : q.den ∣ D := by
  obtain ⟨z, hz⟩ := h
  have e : q.num * (D : Int) = z * (q.den : Int) := by
    apply Rat.intCast_inj.mp
    rw [Rat.intCast_mul, Rat.intCast_mul, ← hz, ← rat_mul_den q]
    show q * ((q.den : Int) : Rat) * (D : Rat) = q * (D : Rat) * ((q.den : Int) : Rat)
    rw [Rat.mul_assoc, Rat.mul_assoc, Rat.mul_comm ((q.den : Int) : Rat)]
  have e2 : q.num.natAbs * D = z.natAbs * q.den := by
    have := congrArg Int.natAbs e
    rwa [Int.natAbs_mul, Int.natAbs_mul, Int.natAbs_natCast, Int.natAbs_natCast] at this
  exact (Nat.Coprime.dvd_of_dvd_mul_left q.reduced.symm ⟨z.natAbs, by rw [e2, Nat.mul_comm]⟩)
theorem RB.of {D : Nat} {q : Rat} (h : IntD D q) (h0 : 0 ≤ q) (h1 : q ≤ 1) (hD : 0 < D) (hb : D < 2 ^ 4000) : RB q := by
  have d := Nat.le_of_dvd hD h.dvd
  have n0 := Rat.num_nonneg.mpr h0
  have n1 := (Rat.le_iff q 1).mp h1
  have n2 : q.num ≤ (q.den : Int) := by
    have e1 : (1 : Rat).den = 1 := rfl
    have e2 : (1 : Rat).num = 1 := rfl
    rw [e1, e2] at n1
    omega
  refine ⟨?_, Nat.lt_of_le_of_lt d hb⟩
  have : q.num.natAbs ≤ q.den := by omega
  exact Nat.lt_of_le_of_lt (Nat.le_trans this d) hb
theorem IntD.div {D d : Nat} (x : Int) (hd : 0 < d) (h : d ∣ D) : IntD D (Rat.divInt x d) := by
  obtain ⟨k, rfl⟩ := h
  refine ⟨x * k, ?_⟩
  have hn : ((d : Int) : Rat) ≠ 0 := fun z => by have := Rat.intCast_inj.mp (z.trans (show (0 : Rat) = ((0 : Int) : Rat) from rfl)); omega
  rw [Rat.divInt_eq_div, Rat.div_def, Rat.natCast_mul, Rat.intCast_mul]
  show (x : Rat) * ((d : Int) : Rat)⁻¹ * (((d : Int) : Rat) * ((k : Int) : Rat)) = _
  rw [Rat.mul_assoc, ← Rat.mul_assoc _ ((d : Int) : Rat), Rat.inv_mul_cancel _ hn, Rat.one_mul]
theorem div_le_one {x d : Int} (h0 : 0 ≤ x) (h1 : x ≤ d) (hd : 0 < d) : 0 ≤ Rat.divInt x d ∧ Rat.divInt x d ≤ 1 := by
  obtain ⟨e1, e2⟩ := rat_parts (t := x) hd
  have g : 0 < Nat.gcd x.natAbs d.natAbs := Nat.gcd_pos_of_pos_right _ (by omega)
  have g' : (0 : Int) < (Nat.gcd x.natAbs d.natAbs : Nat) := by omega
  refine ⟨Rat.num_nonneg.mp (by rw [e1]; exact Int.ediv_nonneg h0 (Int.le_of_lt g')), ?_⟩
  rw [Rat.le_iff]
  show _ * (1 : Int) ≤ (1 : Int) * _
  rw [e1, e2, Int.mul_one, Int.one_mul]
  exact Int.ediv_le_ediv g' h1

theorem fsp_draw {a b : Addr} {p : Pl} {m : Int} {R R1 Rr : RL} {post : A → RL → Prop} {exc : Value → Option Addr → RL → Prop} (h1 : Rem R a (p.res b) R1) (h2 : Rem R1 b p.lst Rr) (hm : 0 < m) (hm2 : m < 1073741824) (hp : p.at_ ≤ p.ns.length)
    (k : ∀ (z : Int) (p' : Pl), 0 ≤ z → z < m → p'.ns = p.ns → p'.at_ ≤ p'.ns.length → post (.i z) ((a, p'.res b) :: (b, p'.lst) :: Rr)) : FSp spLawDraw [.ptr a, .i m] R post exc :=
  ⟨Pl.rs a b p, Rr, .cons h1 (.cons h2 .nil), a, b, p, m, rfl, rfl, hm, hm2, hp, k⟩

/-! ### weighted counts -/
def cntF (N : List K3) (p : Nat → Rat) : Nat → Nat → Rat
  | 0, a => if a = 1 then 1 else 0
  | f + 1, a => if a < 2 then (if a = 1 then 1 else 0) else (1 - p (lvN N a)) * cntF N p f (loN N a) + p (lvN N a) * cntF N p f (hiN N a)
def cnt (N : List K3) (p : Nat → Rat) (a : Nat) : Rat := cntF N p a a
theorem cntF_eq {M : Nat} {N : List K3} (hN : NOk M N) (p : Nat → Rat) : ∀ f a, a < N.length + 2 → a ≤ f → cntF N p f a = cntF N p a a := by
  intro f
  induction f using Nat.strongRecOn with
  | _ f ih =>
    intro a ha hf
    cases f with
    | zero => have : a = 0 := by omega
              rw [this]
    | succ f =>
      by_cases h2 : a < 2
      · show (if a < 2 then _ else _) = _
        rw [if_pos h2]
        cases a with
        | zero => rfl
        | succ a => show _ = (if a + 1 < 2 then _ else _); rw [if_pos h2]
      · have ok := hN a (by omega) ha
        have l1 := ok.lo
        have l2 := ok.hi
        cases a with
        | zero => omega
        | succ a =>
          show (if a + 1 < 2 then _ else (1 - p (lvN N (a + 1))) * cntF N p f _ + p (lvN N (a + 1)) * cntF N p f _) = (if a + 1 < 2 then _ else (1 - p (lvN N (a + 1))) * cntF N p a _ + p (lvN N (a + 1)) * cntF N p a _)
          rw [if_neg h2, if_neg h2, ih f (by omega) (loN N (a + 1)) (by omega) (by omega), ih f (by omega) (hiN N (a + 1)) (by omega) (by omega), ih a (by omega) (loN N (a + 1)) (by omega) (by omega), ih a (by omega) (hiN N (a + 1)) (by omega) (by omega)]
theorem cnt_one (N : List K3) (p : Nat → Rat) {a : Nat} (h : a < 2) : cnt N p a = if a = 1 then 1 else 0 := by
  unfold cnt
  cases a with
  | zero => rfl
  | succ a => show (if a + 1 < 2 then _ else _) = _; rw [if_pos h]
theorem cnt_zero (N : List K3) (p : Nat → Rat) : cnt N p 0 = 0 := cnt_one N p (by decide)
theorem cnt_top (N : List K3) (p : Nat → Rat) : cnt N p 1 = 1 := cnt_one N p (by decide)
theorem cnt_step {M : Nat} {N : List K3} (hN : NOk M N) (p : Nat → Rat) {a : Nat} (h2 : 2 ≤ a) (ha : a < N.length + 2) : cnt N p a = (1 - p (lvN N a)) * cnt N p (loN N a) + p (lvN N a) * cnt N p (hiN N a) := by
  have ok := hN a h2 ha
  have l1 := ok.lo
  have l2 := ok.hi
  unfold cnt
  cases a with
  | zero => omega
  | succ a =>
    show (if a + 1 < 2 then _ else (1 - p (lvN N (a + 1))) * cntF N p a _ + p (lvN N (a + 1)) * cntF N p a _) = _
    rw [if_neg (by omega), cntF_eq hN p a (loN N (a + 1)) (by omega) (by omega), cntF_eq hN p a (hiN N (a + 1)) (by omega) (by omega)]
theorem cnt_app {M : Nat} {N l : List K3} (hN : NOk M N) (hN' : NOk M (N ++ l)) (p : Nat → Rat) : ∀ a, a < N.length + 2 → cnt (N ++ l) p a = cnt N p a := by
  intro a
  induction a using Nat.strongRecOn with
  | _ a ih =>
    intro ha
    by_cases h2 : a < 2
    · rw [cnt_one _ _ h2, cnt_one _ _ h2]
    · have h2 : 2 ≤ a := by omega
      have ok := hN a h2 ha
      have l1 := ok.lo
      have l2 := ok.hi
      rw [cnt_step hN p h2 ha, cnt_step hN' p h2 (by rw [List.length_append]; omega), lv_app ha h2, hi_app ha h2, lo_app ha h2, ih _ l1 (by omega), ih _ l2 (by omega)]
theorem mix_same (a x : Rat) : (1 - a) * x + a * x = x := by
  rw [← Rat.add_mul, Rat.sub_eq_add_neg, Rat.add_assoc, Rat.neg_add_cancel, Rat.add_zero, Rat.one_mul]
/-- the count of a node just made -/
theorem cnt_node {M : Nat} {N : List K3} {x : K3} (hN : NOk M N) (h1 : x.2.1 < N.length + 2) (h2 : x.2.2 < N.length + 2) (nd : NdR M N x) (p : Nat → Rat) : cnt (nodeN N x).1 p (nodeN N x).2 = (1 - p x.1) * cnt N p x.2.1 + p x.1 * cnt N p x.2.2 := by
  have hok := nd.ok
  have key : ∀ (l : List K3) (v : Nat), NOk M (N ++ l) → 2 ≤ v → v < (N ++ l).length + 2 → (N ++ l).getD (v - 2) (0, 0, 0) = x → cnt (N ++ l) p v = (1 - p x.1) * cnt N p x.2.1 + p x.1 * cnt N p x.2.2 := by
    intro l v hN' hv hl hg
    rw [cnt_step hN' p hv hl]
    unfold lvN hiN loN
    rw [hg, cnt_app hN hN' p _ h1, cnt_app hN hN' p _ h2]
  by_cases e : x.2.1 = x.2.2
  · have hn : nodeN N x = (N, x.2.1) := by unfold nodeN; rw [if_pos e]
    rw [hn, ← e, mix_same]
  · by_cases hx : x ∈ N
    · have hn : nodeN N x = (N, N.idxOf x + 2) := by unfold nodeN; rw [if_neg e, if_pos hx]
      have hi := List.idxOf_lt_length_of_mem hx
      rw [hn]
      have := key [] (N.idxOf x + 2) (by rw [List.append_nil]; exact hN) (by omega) (by rw [List.append_nil]; omega) (by
        rw [List.append_nil, List.getD_eq_getElem?_getD, Nat.add_sub_cancel, List.getElem?_eq_getElem hi]; simp)
      rw [List.append_nil] at this
      exact this
    · have hn : nodeN N x = (N ++ [x], N.length + 2) := by unfold nodeN; rw [if_neg e, if_neg hx]
      rw [hn] at hok ⊢
      exact key [x] (N.length + 2) hok (by omega) (by simp) (by rw [List.getD_eq_getElem?_getD, Nat.add_sub_cancel, List.getElem?_append_right (Nat.le_refl _)]; simp)
/-- every ratio on the way is small enough -/
structure CntB (N : List K3) (p : Nat → Rat) (b : Nat) : Prop where
  pp : RB (p (lvN N b))
  qq : RB (1 - p (lvN N b))
  cl : RB (cnt N p (loN N b))
  ch : RB (cnt N p (hiN N b))
  xx : RB ((1 - p (lvN N b)) * cnt N p (loN N b))
  yy : RB (p (lvN N b) * cnt N p (hiN N b))
/-- what is known so far: references whose counts stand in a dict -/
structure KnI (N : List K3) (kn : List Nat) : Prop where
  nd : kn.Nodup
  rg : ∀ b ∈ kn, b < N.length + 2
  zero : 0 ∈ kn
  one : 1 ∈ kn
def knD (N : List K3) (p : Nat → Rat) (kn : List Nat) : List (Key × A) := kn.map fun b : Nat => (Sum.inl (b : Int), A.d (dR (cnt N p b)))
theorem knD_lk (N : List K3) (p : Nat → Rat) (b : Nat) : ∀ kn : List Nat, lkA (knD N p kn) (Sum.inl (b : Int)) = if b ∈ kn then some (A.d (dR (cnt N p b))) else none
  | [] => by simp [knD, lkA]
  | c :: r => by
    rw [show knD N p (c :: r) = (Sum.inl (c : Int), A.d (dR (cnt N p c))) :: knD N p r from rfl, lkA_cons, knD_lk N p b r]
    by_cases h : c = b
    · subst h; simp
    · have h1 : ¬ ((Sum.inl (c : Int) : Key) = Sum.inl (b : Int)) := fun e => h (by have := Sum.inl.inj e; omega)
      rw [if_neg h1]
      by_cases h2 : b ∈ r
      · rw [if_pos h2, if_pos (List.mem_cons_of_mem _ h2)]
      · rw [if_neg h2, if_neg (fun z => (List.mem_cons.mp z).elim (fun q => h q.symm) h2)]
theorem KnI.len {N : List K3} {kn : List Nat} (h : KnI N kn) : kn.length ≤ N.length + 2 := nodup_len _ h.nd h.rg
theorem KnI.snoc {N : List K3} {kn : List Nat} {b : Nat} (h : KnI N kn) (hb : b ∉ kn) (hl : b < N.length + 2) : KnI N (kn ++ [b]) := by
  refine ⟨List.nodup_append.mpr ⟨h.nd, List.nodup_cons.mpr ⟨by simp, List.nodup_nil⟩, fun a ha c hc e => ?_⟩, fun c hc => ?_, List.mem_append_left _ h.zero, List.mem_append_left _ h.one⟩
  · obtain rfl := List.mem_singleton.mp hc
    exact hb (e ▸ ha)
  · rcases List.mem_append.mp hc with hc | hc
    · exact h.rg c hc
    · obtain rfl := List.mem_singleton.mp hc; exact hl
theorem knD_put {N : List K3} {p : Nat → Rat} {kn : List Nat} {b : Nat} (hb : b ∉ kn) : putA (knD N p kn) (Sum.inl (b : Int)) (A.d (dR (cnt N p b))) = knD N p (kn ++ [b]) := by
  rw [putA_new _ (by rw [knD_lk, if_neg hb])]
  unfold knD; rw [List.map_append]; rfl
/-- ascending: what is smaller than the item at a place stands before it -/
theorem asc_before {bs : List Nat} {i b c : Nat} (h : bs.Pairwise (· < ·)) (hi : bs[i]? = some b) (hc : c ∈ bs) (l : c < b) : c ∈ bs.take i := by
  obtain ⟨j, hj⟩ := List.mem_iff_getElem?.mp hc
  obtain ⟨hi1, hi2⟩ := List.getElem?_eq_some_iff.mp hi
  obtain ⟨hj1, hj2⟩ := List.getElem?_eq_some_iff.mp hj
  by_cases q : j < i
  · exact List.mem_iff_getElem?.mpr ⟨j, by rw [List.getElem?_take_of_lt q]; exact hj⟩
  · exfalso
    by_cases e : j = i
    · subst e; omega
    · have := List.pairwise_iff_getElem.mp h i j hi1 hj1 (by omega)
      omega

/-! ### counting -/
section
variable {P : Program} {w : World} {K : PySem.W.Frag} {mg : Str → Option Value} {base : Heap} {C : Addr}
def sp1R (f : Rat → Rat) : ASp := pur fun xs q => ∃ a : Rat, xs = [.d (dR a)] ∧ RB a ∧ q (.d (dR (f a)))
theorem mon_1R (f : Rat → Rat) : Mon (sp1R f) := mon_pur fun xs q q' h ⟨a, h1, h2, k⟩ => ⟨a, h1, h2, h _ k⟩
theorem c_rest (d : Df K mg "rest" s_rest ["r"]) (cO : Cst K mg "ONE" (.tuple [.int 1, .int 1])) (c1 : Cal P w K mg base 2 "minus" ["a", "b"] (sp2R (· - ·))) : Cal P w K mg base 3 "rest" ["r"] (sp1R fun a => 1 - a) := d.cal (mon_1R _) fun f fd F => by
  refine okA F sc_rest lc_rest (fun xs R q e h => ?_) ?_
  · obtain ⟨rfl, a, rfl, _⟩ := h; rfl
  rintro X hX hU hr ⟨cdv, Ar, outer, s, H, E, rfl⟩ xs R post exc ⟨rfl, a, rfl, ha, k⟩
  show ASs _ _ (defBody s_rest) [("r", some (.d (dR a)))] _ _
  walk_at "go"
  exact ⟨1, a, rfl, ⟨Nat.one_lt_two_pow (by decide), Nat.one_lt_two_pow (by decide)⟩, ha, [], Le.refl _, k⟩
def pAt (cs : List Rat) (l : Nat) : Rat := cs.getD l 0
theorem cs_at {cs : List Rat} {l : Nat} (h : l < cs.length) : atI (cs.map dR) (l : Int) = some (dR (pAt cs l)) := by
  refine atI_nat ?_
  unfold pAt
  rw [List.getElem?_map, List.getD_eq_getElem?_getD, List.getElem?_eq_getElem h]; rfl
end

/-! ### the law's chances -/
/-- a chance with a small denominator -/
def Ch6 (q : Rat) : Prop := 0 ≤ q ∧ q ≤ 1 ∧ q.den ≤ 6
theorem ch6_of {t b : Int} (h0 : 0 ≤ t) (h1 : t ≤ b) (hb : 0 < b) (h6 : b ≤ 6) : Ch6 (Rat.divInt t b) := by
  obtain ⟨a, c⟩ := div_le_one h0 h1 hb
  refine ⟨a, c, ?_⟩
  have e := (rat_parts (t := t) hb).2
  have := Int.ediv_le_self ((Nat.gcd t.natAbs b.natAbs : Nat) : Int) (Int.le_of_lt hb)
  omega
section
variable {P : Program} {w : World} {K : PySem.W.Frag} {mg : Str → Option Value} {base : Heap}
def spLawChances : ASp := fun xs R post _ => ∃ (pa pb : Addr) (p : Pl) (m : Nat), xs = [.ptr pa, .i m] ∧ R = Pl.rs pa pb p ∧ m < 1000 ∧ p.at_ ≤ p.ns.length ∧
  ∀ (p' : Pl) (cs : List Rat) (q : Addr), p'.ns = p.ns → p'.at_ ≤ p'.ns.length → cs.length = m → (∀ c ∈ cs, Ch6 c) → post (.ptr q) ((q, .lst (cs.map fun c => A.d (dR c))) :: Pl.rs pa pb p')
theorem mon_lawChances : Mon spLawChances := fun xs R p p' e e' h _ ⟨pa, pb, pl, m, h1, h2, h3, h4, k⟩ => ⟨pa, pb, pl, m, h1, h2, h3, h4, fun p' cs q z1 z2 z3 z4 => h _ _ (k p' cs q z1 z2 z3 z4)⟩
theorem c__law_chances (d : Df K mg "_law_chances" s__law_chances ["pool", "many"]) (B : Blt mg) (m1 : Cal P w K mg base 2 "_law_draw" ["pool", "many"] spLawDraw) (m2 : Cal P w K mg base 2 "_law_frac" ["top", "bottom"] spLawFrac) : Cal P w K mg base 3 "_law_chances" ["pool", "many"] spLawChances := d.cal mon_lawChances fun f fd F => by
  refine okA F sc__law_chances lc__law_chances (fun xs R q e h => ?_) ?_
  · obtain ⟨pa, pb, p, m, rfl, _⟩ := h; rfl
  rintro X hX hU hr ⟨cdv, Ar, outer, s, H, E, rfl⟩ xs R post exc ⟨pa, pb, p, m, rfl, rfl, hm, hp, kont⟩
  show ASs _ _ (defBody s__law_chances) [("pool", some (.ptr pa)), ("many", some (.i m)), ("found", none), ("k", none), ("bottom", none)] _ _
  have hsz : 2000000 < sizeLine := by decide
  walk_at "go"
  refine as_for (fun i δ R => ∃ (p' : Pl) (cs : List Rat) (q : Addr) (v1 v2 : Option AL.A), p'.ns = p.ns ∧ p'.at_ ≤ p'.ns.length ∧ cs.length = i ∧ i ≤ m ∧ (∀ c ∈ cs, Ch6 c) ∧
    δ = ([("pool", some (.ptr pa)), ("many", some (.i m)), ("found", some (.ptr q)), ("k", v1), ("bottom", v2)] : SL) ∧ R = (q, .lst (cs.map fun c => A.d (dR c))) :: Pl.rs pa pb p') hX ?_
  refine ai_range1 B.range ?_
  walk_at "go"
  refine ⟨_, rfl, by omega, by omega, Wk.self ⟨p, [], _, _, _, rfl, hp, rfl, Nat.zero_le _, (fun c h => by cases h), rfl, rfl⟩, fun _ _ _ _ => trivial, ?_, ?_⟩
  · rintro i x δ R hi0 ⟨p', cs, q, v1, v2, e1, e2, e3, e4, e5, rfl, rfl⟩
    obtain ⟨hi, rfl⟩ := rangeA_get hi0
    clear hi0
    rw [Int.toNat_natCast] at hi
    walk_at "go"
    refine fsp_draw (by walk_at "rem") (by walk_at "rem") (by omega) (by omega) e2 (fun z p1 a1 a2 a3 a4 => ?_)
    walk_at "go"
    refine fsp_draw (by walk_at "rem") (by walk_at "rem") (by omega) (by omega) a4 (fun t p2 b1 b2 b3 b4 => ?_)
    walk_at "go"
    have ht : t.natAbs < 2 ^ 30 := by omega
    have hz : (1 + z).natAbs < 2 ^ 30 := by omega
    refine ⟨t, 1 + z, rfl, by omega, Nat.lt_of_lt_of_le ht (Nat.pow_le_pow_right (by decide) (by decide)), Nat.lt_of_lt_of_le hz (Nat.pow_le_pow_right (by decide) (by decide)), ?_⟩
    have hln : (cs.map fun c => A.d (dR c)).length < sizeLine := by rw [List.length_map]; omega
    walk_at "go"
    have ec : (cs.map fun c => A.d (dR c)) ++ [A.d (dR (Rat.divInt t (1 + z)))] = (cs ++ [Rat.divInt t (1 + z)]).map fun c => A.d (dR c) := by rw [List.map_append]; rfl
    rw [ec]
    refine ⟨_, _, Le.cons (.there (.there .here)) (Le.refl _), Fg.refl _, p2, cs ++ [Rat.divInt t (1 + z)], q, _, _, b3.trans (a3.trans e1), b4, by rw [List.length_append, e3]; rfl, by omega, fun c hc => ?_, rfl, rfl⟩
    rcases List.mem_append.mp hc with hc | hc
    · exact e5 c hc
    · obtain rfl := List.mem_singleton.mp hc
      exact ch6_of b1 (by omega) (by omega) (by omega)
  · rintro δ R ⟨p', cs, q, v1, v2, e1, e2, e3, e4, e5, rfl, rfl⟩
    rw [rangeA_len, Int.toNat_natCast] at e3
    walk_at "go"
    exact ⟨_, Le.refl _, kont p' cs q e1 e2 e3 e5⟩
end

/-! ### counts are chances, with known denominators -/
/-- the product of the denominators of the coins from l on, n of them -/
def dpr (cs : List Rat) : Nat → Nat → Nat
  | 0, _ => 1
  | n + 1, l => (pAt cs l).den * dpr cs n (l + 1)
theorem dpr_pos (cs : List Rat) : ∀ n l, 0 < dpr cs n l
  | 0, _ => Nat.one_pos
  | n + 1, l => Nat.mul_pos (pAt cs l).den_pos (dpr_pos cs n (l + 1))
theorem IntD.scale {D q} (h : IntD D q) (k : Nat) : IntD (k * D) q := by
  obtain ⟨z, hz⟩ := h
  refine ⟨(k : Int) * z, ?_⟩
  rw [Rat.natCast_mul, Rat.intCast_mul, ← hz]
  show q * (((k : Int) : Rat) * (D : Rat)) = _
  grind
theorem IntD.den (q : Rat) : IntD q.den q := ⟨q.num, rat_mul_den q⟩
theorem IntD.one_sub {D : Nat} {q : Rat} (h : IntD D q) : IntD D (1 - q) := by
  rw [Rat.sub_eq_add_neg]; exact (IntD.one D).add h.neg
theorem one_sub01 {q : Rat} (h : 0 ≤ q ∧ q ≤ 1) : 0 ≤ 1 - q ∧ 1 - q ≤ 1 := by grind
theorem mul01 {a b : Rat} (ha : 0 ≤ a ∧ a ≤ 1) (hb : 0 ≤ b ∧ b ≤ 1) : 0 ≤ a * b ∧ a * b ≤ 1 := by
  refine ⟨Rat.mul_nonneg ha.1 hb.1, Rat.le_trans ?_ ha.2⟩
  have := Rat.mul_le_mul_of_nonneg_left hb.2 ha.1
  rwa [Rat.mul_one] at this
theorem mix01 {a x y : Rat} (ha : 0 ≤ a ∧ a ≤ 1) (hx : 0 ≤ x ∧ x ≤ 1) (hy : 0 ≤ y ∧ y ≤ 1) : 0 ≤ (1 - a) * x + a * y ∧ (1 - a) * x + a * y ≤ 1 := by
  have h1 := one_sub01 ha
  have b1 := Rat.mul_nonneg h1.1 hx.1
  have b2 := Rat.mul_nonneg ha.1 hy.1
  have b3 := Rat.mul_le_mul_of_nonneg_left hx.2 h1.1
  have b4 := Rat.mul_le_mul_of_nonneg_left hy.2 ha.1
  grind
theorem dpr_down (cs : List Rat) : ∀ (n l : Nat) {q : Rat}, IntD (dpr cs n (l + 1)) q → IntD (dpr cs (n + 1) l) q := fun n l q h => h.scale _
theorem dpr_to (cs : List Rat) (M : Nat) : ∀ (k l m : Nat) {q : Rat}, m = l + k → m ≤ M → IntD (dpr cs (M - m) m) q → IntD (dpr cs (M - l) l) q
  | 0, l, m, q, e, _, h => by
    have : m = l := by omega
    rw [this] at h; exact h
  | k + 1, l, m, q, e, hm, h => by
    have h1 := dpr_to cs M k (l + 1) m (by omega) hm h
    have e2 : M - l = (M - (l + 1)) + 1 := by omega
    rw [e2]
    exact dpr_down cs _ _ h1
structure C01 (cs : List Rat) : Prop where
  bd : ∀ l, 0 ≤ pAt cs l ∧ pAt cs l ≤ 1
theorem c01_of {cs : List Rat} (h : ∀ c ∈ cs, 0 ≤ c ∧ c ≤ 1) : C01 cs := ⟨fun l => by
  unfold pAt
  rw [List.getD_eq_getElem?_getD]
  cases e : cs[l]? with
  | none => exact ⟨by decide, by decide⟩
  | some c => exact h c (List.mem_of_getElem? e)⟩
theorem cnt_bd {M : Nat} {N : List K3} {cs : List Rat} (hN : NOk M N) (hc : C01 cs) : ∀ b, b < N.length + 2 → (0 ≤ cnt N (pAt cs) b ∧ cnt N (pAt cs) b ≤ 1) ∧ ∀ m, m ≤ M → geL N m b → IntD (dpr cs (M - m) m) (cnt N (pAt cs) b) := by
  intro b
  induction b using Nat.strongRecOn with
  | _ b ih =>
    intro hb
    by_cases h2 : b < 2
    · rw [cnt_one _ _ h2]
      by_cases e : b = 1
      · rw [if_pos e]; exact ⟨⟨by decide, by decide⟩, fun m _ _ => IntD.one _⟩
      · rw [if_neg e]; exact ⟨⟨by decide, by decide⟩, fun m _ _ => IntD.zero _⟩
    · have h2 : 2 ≤ b := by omega
      have ok := hN b h2 hb
      have l1 := ok.lo
      have l2 := ok.hi
      have l3 := ok.lv
      obtain ⟨x1, x2⟩ := ih _ l1 (by omega)
      obtain ⟨y1, y2⟩ := ih _ l2 (by omega)
      rw [cnt_step hN _ h2 hb]
      refine ⟨mix01 (hc.bd _) x1 y1, fun m hm hg => ?_⟩
      have hlv := hg h2
      refine dpr_to cs M (lvN N b - m) m (lvN N b) (by omega) (by omega) ?_
      have e2 : M - lvN N b = (M - (lvN N b + 1)) + 1 := by omega
      rw [e2]
      exact ((IntD.den _).one_sub.mul (x2 _ (by omega) ok.llo)).add ((IntD.den _).mul (y2 _ (by omega) ok.lhi))
theorem cntB_all {M : Nat} {N : List K3} {cs : List Rat} (hN : NOk M N) (hc : C01 cs) (hD : dpr cs M 0 < 2 ^ 4000) : ∀ b, 2 ≤ b → b < N.length + 2 → CntB N (pAt cs) b := by
  intro b h2 hb
  have ok := hN b h2 hb
  have l1 := ok.lo
  have l2 := ok.hi
  have l3 := ok.lv
  obtain ⟨x1, x2⟩ := cnt_bd hN hc _ (show loN N b < N.length + 2 by omega)
  obtain ⟨y1, y2⟩ := cnt_bd hN hc _ (show hiN N b < N.length + 2 by omega)
  have p1 := hc.bd (lvN N b)
  have down : ∀ {q : Rat}, IntD (dpr cs (M - (lvN N b + 1)) (lvN N b + 1)) q → IntD (dpr cs (M - 0) 0) q := fun {q} h => dpr_to cs M (lvN N b + 1) 0 (lvN N b + 1) (by omega) (by omega) h
  have down1 : ∀ {q : Rat}, IntD (dpr cs (M - (lvN N b + 1) + 1) (lvN N b)) q → IntD (dpr cs (M - 0) 0) q := fun {q} h => by
    have e2 : (M - (lvN N b + 1)) + 1 = M - lvN N b := by omega
    rw [e2] at h
    exact dpr_to cs M (lvN N b) 0 (lvN N b) (by omega) (by omega) h
  have ip : IntD (dpr cs (M - (lvN N b + 1) + 1) (lvN N b)) (pAt cs (lvN N b)) := by
    show IntD (_ * _) _
    rw [Nat.mul_comm]
    exact (IntD.den _).scale _
  have rb : ∀ {q : Rat}, 0 ≤ q ∧ q ≤ 1 → IntD (dpr cs (M - 0) 0) q → RB q := fun {q} h1 h2 => RB.of h2 h1.1 h1.2 (dpr_pos _ _ _) hD
  have xl := x2 _ (show lvN N b + 1 ≤ M by omega) ok.llo
  have yl := y2 _ (show lvN N b + 1 ≤ M by omega) ok.lhi
  exact ⟨rb p1 (down1 ip), rb (one_sub01 p1) (down1 ip.one_sub), rb x1 (down xl), rb y1 (down yl), rb (mul01 (one_sub01 p1) x1) (down1 ((IntD.den _).one_sub.mul xl)), rb (mul01 p1 y1) (down1 ((IntD.den _).mul yl))⟩
theorem dpr_le (cs : List Rat) (h : ∀ l, (pAt cs l).den ≤ 6) : ∀ n l, dpr cs n l ≤ 6 ^ n
  | 0, _ => by show 1 ≤ _; decide
  | n + 1, l => by
    rw [Nat.pow_succ, Nat.mul_comm]
    exact Nat.mul_le_mul (h l) (dpr_le cs h n (l + 1))
theorem pAt_den {cs : List Rat} (h : ∀ c ∈ cs, Ch6 c) (l : Nat) : (pAt cs l).den ≤ 6 := by
  unfold pAt
  rw [List.getD_eq_getElem?_getD]
  cases e : cs[l]? with
  | none => decide
  | some c => exact (h c (List.mem_of_getElem? e)).2.2
theorem ch6_c01 {cs : List Rat} (h : ∀ c ∈ cs, Ch6 c) : C01 cs := c01_of fun c hc => ⟨(h c hc).1, (h c hc).2.1⟩

/-! ### lists of ratios have no dicts in them -/
theorem nod_dR (q : Rat) : nod (dR q) = true ∧ dpt (dR q) = 1 := by
  unfold dR
  exact ⟨by simp [nod, nodL], by simp [dpt, dptL]⟩
theorem nod_due (l : List Rat) (h : l.length < 1000000) : nod (.list (l.map dR)) = true ∧ dpt (.list (l.map dR)) ≤ 2 := by
  have e : nodL (l.map dR) = true ∧ dptL (l.map dR) ≤ 1 := by
    clear h
    induction l with
    | nil => exact ⟨by rw [List.map_nil, nodL], by rw [List.map_nil, dptL]; omega⟩
    | cons q r ih => exact ⟨by rw [List.map_cons, nodL, (nod_dR q).1, ih.1]; rfl, by rw [List.map_cons, dptL, (nod_dR q).2]; have := ih.2; omega⟩
  refine ⟨?_, ?_⟩
  · rw [nod, e.1, decide_eq_true (by rw [List.length_map]; exact h)]; rfl
  · rw [dpt]; have := e.2; omega

end
section
local macro_rules | `(tactic| walk_at "flk") => `(tactic| first | exact stF_lv _ | exact stF_lo _ | exact stF_hi _ | exact stF_nd _ | exact stF_ch _)
local macro_rules | `(tactic| walk_at "len") => `(tactic| first | omega | (simp only [Sto.lvs, Sto.los, Sto.his, List.length_map, ndD, ndG_len, chD, List.length_append, List.length_cons, List.length_nil]; omega))
local macro_rules | `(tactic| walk_at "ixl") => `(tactic| first | rfl | (refine lvs_at ?_ ?_ <;> omega) | (refine los_at ?_ ?_ <;> omega) | (refine his_at ?_ ?_ <;> omega))

/-! ### masses of assignments -/
def massN (p : Nat → Rat) (β : Nat → Bool) : Nat → Rat
  | 0 => 1
  | k + 1 => massN p β k * (if β k = true then p k else 1 + -(p k))
def sumTo : Nat → (Nat → Rat) → Rat
  | 0, _ => 0
  | c + 1, f => sumTo c f + f c
/-- the assignment number c of n coins -/
def bitF (n c : Nat) (l : Nat) : Bool := decide (l < n) && decide (c / 2 ^ l % 2 = 1)
def setT (β : Nat → Bool) (n : Nat) (l : Nat) : Bool := decide (l = n) || β l
def Ex (p : Nat → Rat) (n : Nat) (F : (Nat → Bool) → Bool) : Rat := sumTo (2 ^ n) fun c => if F (bitF n c) = true then massN p (bitF n c) n else 0
theorem sumTo_split (f : Nat → Rat) (a : Nat) : ∀ b, sumTo (a + b) f = sumTo a f + sumTo b fun c => f (a + c)
  | 0 => (Rat.add_zero _).symm
  | b + 1 => by
    show sumTo (a + b) f + f (a + b) = _
    rw [sumTo_split f a b, Rat.add_assoc]; rfl
theorem sumTo_congr {f g : Nat → Rat} : ∀ b, (∀ c, c < b → f c = g c) → sumTo b f = sumTo b g
  | 0, _ => rfl
  | b + 1, h => by
    show _ + _ = _ + _
    rw [sumTo_congr b fun c hc => h c (Nat.lt_succ_of_lt hc), h b (Nat.lt_succ_self b)]
theorem sumTo_mul (f : Nat → Rat) (x : Rat) : ∀ b, sumTo b (fun c => f c * x) = sumTo b f * x
  | 0 => (Rat.zero_mul _).symm
  | b + 1 => by
    show _ + _ = (_ + _) * _
    rw [sumTo_mul f x b, Rat.add_mul]
theorem massN_congr {p : Nat → Rat} {β γ : Nat → Bool} : ∀ n, (∀ l, l < n → β l = γ l) → massN p β n = massN p γ n
  | 0, _ => rfl
  | n + 1, h => by
    show _ * _ = _ * _
    rw [massN_congr n fun l hl => h l (Nat.lt_succ_of_lt hl), h n (Nat.lt_succ_self n)]
theorem bitF_low {n c : Nat} (h : c < 2 ^ n) : bitF (n + 1) c = bitF n c := by
  funext l
  unfold bitF
  by_cases q : l < n
  · rw [decide_eq_true q, decide_eq_true (Nat.lt_succ_of_lt q)]
  · rw [decide_eq_false q, Bool.false_and]
    by_cases q2 : l < n + 1
    · have e : l = n := by omega
      subst e
      rw [Nat.div_eq_of_lt h]; simp
    · rw [decide_eq_false q2, Bool.false_and]
theorem bitF_high {n c : Nat} (h : c < 2 ^ n) : bitF (n + 1) (2 ^ n + c) = setT (bitF n c) n := by
  funext l
  show (decide (l < n + 1) && decide ((2 ^ n + c) / 2 ^ l % 2 = 1)) = (decide (l = n) || (decide (l < n) && decide (c / 2 ^ l % 2 = 1)))
  by_cases q : l < n
  · rw [decide_eq_true q, decide_eq_true (Nat.lt_succ_of_lt q), decide_eq_false (show ¬ l = n by omega), Bool.true_and, Bool.true_and, Bool.false_or]
    have e : 2 ^ n = 2 ^ l * (2 * 2 ^ (n - l - 1)) := by
      rw [← Nat.mul_assoc, ← Nat.pow_succ, ← Nat.pow_add]
      congr 1; omega
    have e2 : (2 ^ n + c) / 2 ^ l % 2 = c / 2 ^ l % 2 := by
      rw [e, Nat.mul_add_div (Nat.two_pow_pos l)]
      omega
    rw [e2]
  · by_cases q2 : l = n
    · subst q2
      have e2 : (2 ^ l + c) / 2 ^ l % 2 = 1 := by
        rw [Nat.add_div_left _ (Nat.two_pow_pos l), Nat.div_eq_of_lt h]
      rw [e2]
      simp
    · rw [decide_eq_false q2, decide_eq_false q, decide_eq_false (show ¬ l < n + 1 by omega)]; rfl
theorem bitF_self (n c : Nat) : bitF n c n = false := by unfold bitF; rw [decide_eq_false (Nat.lt_irrefl n)]; rfl
theorem Ex_congr {p : Nat → Rat} {n : Nat} {F G : (Nat → Bool) → Bool} (h : ∀ c, c < 2 ^ n → F (bitF n c) = G (bitF n c)) : Ex p n F = Ex p n G :=
  sumTo_congr _ fun c hc => by rw [h c hc]
theorem Ex_succ (p : Nat → Rat) (n : Nat) (F : (Nat → Bool) → Bool) : Ex p (n + 1) F = Ex p n F * (1 + -(p n)) + Ex p n (fun β => F (setT β n)) * p n := by
  unfold Ex
  rw [Nat.pow_succ, Nat.mul_two, sumTo_split, ← sumTo_mul, ← sumTo_mul]
  congr 1
  · refine sumTo_congr _ fun c hc => ?_
    rw [bitF_low hc]
    by_cases q : F (bitF n c) = true
    · rw [if_pos q, if_pos q]
      show _ * _ = _
      rw [bitF_self, if_neg (by decide)]
    · rw [if_neg q, if_neg q, Rat.zero_mul]
  · refine sumTo_congr _ fun c hc => ?_
    rw [bitF_high hc]
    by_cases q : F (setT (bitF n c) n) = true
    · rw [if_pos q, if_pos q]
      show _ * _ = _
      have e : setT (bitF n c) n n = true := by unfold setT; simp
      rw [e, if_pos rfl]
      congr 1
      refine massN_congr _ fun l hl => ?_
      unfold setT
      rw [decide_eq_false (show ¬ l = n by omega), Bool.false_or]
    · rw [if_neg q, if_neg q, Rat.zero_mul]
theorem rat_split (x a : Rat) : x * (1 + -a) + x * a = x := by
  rw [← Rat.mul_add, Rat.add_assoc, Rat.neg_add_cancel, Rat.add_zero, Rat.mul_one]
theorem Ex_indep {p : Nat → Rat} {F : (Nat → Bool) → Bool} {m : Nat} (h : ∀ n, m ≤ n → ∀ β, F (setT β n) = F β) : ∀ k, Ex p (m + k) F = Ex p m F
  | 0 => rfl
  | k + 1 => by
    rw [← Nat.add_assoc, Ex_succ, Ex_congr (F := fun β => F (setT β (m + k))) (G := F) (fun c _ => h (m + k) (Nat.le_add_right _ _) _), rat_split, Ex_indep h k]
theorem Ex_none (p : Nat → Rat) (n : Nat) : Ex p n (fun _ => false) = 0 := by
  unfold Ex
  generalize 2 ^ n = b
  induction b with
  | zero => rfl
  | succ b ih =>
    show sumTo b _ + (if false = true then _ else (0 : Rat)) = _
    rw [ih, if_neg (by decide), Rat.add_zero]
theorem Ex_all (p : Nat → Rat) (n : Nat) : Ex p n (fun _ => true) = 1 := by
  have := Ex_indep (p := p) (F := fun _ => true) (m := 0) (fun _ _ _ => rfl) n
  rw [Nat.zero_add] at this
  rw [this]
  show (0 : Rat) + (if true = true then (1 : Rat) else 0) = 1
  rw [if_pos rfl, Rat.zero_add]

/-! ### truth tables -/
def tabF (n : Nat) (F : (Nat → Bool) → Bool) : List Bool := (List.range (2 ^ n)).map fun i => F (bitF n i)
abbrev tabD (n : Nat) (F : (Nat → Bool) → Bool) : List PyData := (tabF n F).map PyData.bool
theorem tabF_len (n : Nat) (F : (Nat → Bool) → Bool) : (tabF n F).length = 2 ^ n := by unfold tabF; rw [List.length_map, List.length_range]
theorem tabD_len (n : Nat) (F : (Nat → Bool) → Bool) : (tabD n F).length = 2 ^ n := by unfold tabD; rw [List.length_map, tabF_len]
theorem tabD_at {n i : Nat} (F : (Nat → Bool) → Bool) (h : i < 2 ^ n) : atI (tabD n F) (i : Int) = some (.bool (F (bitF n i))) := by
  refine atI_nat ?_
  unfold tabD tabF
  rw [List.getElem?_map, List.getElem?_map, List.getElem?_range h]; rfl
theorem tabF_congr {n : Nat} {F G : (Nat → Bool) → Bool} (h : ∀ i, i < 2 ^ n → F (bitF n i) = G (bitF n i)) : tabF n F = tabF n G := List.map_congr_left fun i hi => h i (List.mem_range.mp hi)
theorem tabF_eq {n : Nat} {F G : (Nat → Bool) → Bool} (h : tabF n F = tabF n G) : ∀ i, i < 2 ^ n → F (bitF n i) = G (bitF n i) := fun i hi => by
  have := congrArg (fun l => l[i]?) h
  unfold tabF at this
  rw [List.getElem?_map, List.getElem?_map, List.getElem?_range hi] at this
  exact Option.some.inj this
theorem tabF_const (n : Nat) (b : Bool) : tabF n (fun _ => b) = List.replicate (2 ^ n) b := by
  unfold tabF
  rw [List.map_const', List.length_range]
theorem bitF_test (n c l : Nat) : bitF n c l = (decide (l < n) && c.testBit l) := by
  unfold bitF; rw [Nat.testBit_eq_decide_div_mod_eq]
/-- the index with one bit cleared, set -/
theorem bit_clear {n k i : Nat} (hk : k < n) (hi : i < 2 ^ n) : (i &&& (2 ^ n - 1 - 2 ^ k)) < 2 ^ n ∧ bitF n (i &&& (2 ^ n - 1 - 2 ^ k)) = putB (bitF n i) k false := by
  have hp : 2 ^ k < 2 ^ n := Nat.pow_lt_pow_right (by decide) hk
  refine ⟨Nat.lt_of_le_of_lt Nat.and_le_left hi, funext fun l => ?_⟩
  unfold putB
  rw [bitF_test, bitF_test, Nat.testBit_and, show 2 ^ n - 1 - 2 ^ k = 2 ^ n - (2 ^ k + 1) by omega, Nat.testBit_two_pow_sub_succ hp, Nat.testBit_two_pow]
  by_cases e : l = k
  · subst e; simp
  · rw [if_neg e, show decide (k = l) = false from decide_eq_false fun z => e z.symm]
    cases decide (l < n) <;> simp
theorem bit_set {n k i : Nat} (hk : k < n) (hi : i < 2 ^ n) : (i ||| 2 ^ k) < 2 ^ n ∧ bitF n (i ||| 2 ^ k) = putB (bitF n i) k true := by
  have hp : 2 ^ k < 2 ^ n := Nat.pow_lt_pow_right (by decide) hk
  refine ⟨Nat.or_lt_two_pow hi hp, funext fun l => ?_⟩
  unfold putB
  rw [bitF_test, bitF_test, Nat.testBit_or, Nat.testBit_two_pow]
  by_cases e : l = k
  · subst e; rw [if_pos rfl, decide_eq_true hk]; simp
  · rw [if_neg e, show decide (k = l) = false from decide_eq_false fun z => e z.symm, Bool.or_false]
/-- every assignment of n coins has a number -/
theorem bitF_onto : ∀ (n : Nat) (β : Nat → Bool), ∃ i, i < 2 ^ n ∧ ∀ l, l < n → bitF n i l = β l
  | 0, β => ⟨0, by decide, fun l h => absurd h (Nat.not_lt_zero l)⟩
  | n + 1, β => by
    obtain ⟨i, hi, h⟩ := bitF_onto n β
    have hp : 2 ^ (n + 1) = 2 ^ n + 2 ^ n := by rw [Nat.pow_succ]; omega
    cases e : β n
    · refine ⟨i, by omega, fun l hl => ?_⟩
      rw [bitF_low hi]
      by_cases q : l = n
      · subst q; rw [bitF_self]; exact e.symm
      · exact h l (by omega)
    · refine ⟨2 ^ n + i, by omega, fun l hl => ?_⟩
      rw [bitF_high hi]
      unfold setT
      by_cases q : l = n
      · subst q; rw [decide_eq_true rfl, Bool.true_or]; exact e.symm
      · rw [decide_eq_false q, Bool.false_or]; exact h l (by omega)
theorem eqv_bools : ∀ l m : List Bool, PyData.eqvAll (l.map PyData.bool) (m.map PyData.bool) = decide (l = m)
  | [], [] => by simp [PyData.eqvAll]
  | [], _ :: _ => by simp [PyData.eqvAll]
  | _ :: _, [] => by simp [PyData.eqvAll]
  | a :: l, b :: m => by
    rw [List.map_cons, List.map_cons, PyData.eqvAll, eqv_bools l m]
    cases a <;> cases b <;> simp [PyData.eqv]
theorem eqv_boolsL (l m : List Bool) : PyData.eqv (.list (l.map PyData.bool)) (.list (m.map PyData.bool)) = decide (l = m) := by
  rw [PyData.eqv, eqv_bools]
theorem shaped_bools (l : List Bool) : SeqAt.shaped (.list (l.map PyData.bool)) = true := shaped_l (n := 0) (fun d hd => by
  obtain ⟨q, _, rfl⟩ := List.mem_map.mp hd
  exact ⟨by simp only [PyData.canLay0], by simp only [PyData.depth]; omega⟩) (by omega)
/-- what a comprehension over a range of places makes: booleans -/
def rbG (h : Nat → Bool) (x : A) : Option A := match x with
  | .d (.int k) => some (.b (h k.toNat))
  | _ => none
theorem rbG_eq (h : Nat → Bool) (M : Nat) : (rangeA 0 M).filterMap (rbG h) = (((List.range M).map h).map PyData.bool).map A.d := by
  unfold rangeA
  generalize List.range M = l
  induction l with
  | nil => rfl
  | cons v r ih =>
    rw [List.map_cons, List.map_cons, List.map_cons, List.map_cons, List.filterMap_cons_some (f := rbG h) (b := A.b (h v)) ?_, ih]
    show some (A.b (h ((0 : Int) + (v : Int)).toNat)) = _
    rw [Int.zero_add, Int.toNat_natCast]
theorem shr_and {i k : Nat} : decide (Builtin.bitAnd ((i : Int) / 2 ^ ((k : Int)).toNat) 1 = 1) = i.testBit k := by
  have e1 : (i : Int) / 2 ^ ((k : Int)).toNat = ((i / 2 ^ k : Nat) : Int) := by rw [Int.toNat_natCast, Int.natCast_ediv, Int.natCast_pow]; rfl
  rw [e1, bitAnd_pp (Int.natCast_nonneg _) (by decide), Int.toNat_natCast, show (1 : Int).toNat = 1 from rfl, Nat.and_one_is_mod, Nat.testBit_eq_decide_div_mod_eq]
  by_cases z : i / 2 ^ k % 2 = 1
  · rw [z]; rfl
  · rw [decide_eq_false z, decide_eq_false (by omega)]
theorem two_shl (n : Nat) : (1 : Int) * 2 ^ ((n : Int)).toNat = ((2 ^ n : Nat) : Int) := by rw [Int.one_mul, Int.toNat_natCast]; exact (Int.natCast_pow 2 _).symm

/-! ### the law's tables -/
section
variable {P : Program} {w : World} {K : PySem.W.Frag} {mg : Str → Option Value} {base : Heap}
def spLCoin : ASp := fun xs R post _ => ∃ n k : Nat, xs = [.i n, .i k] ∧ R = [] ∧ k < n ∧ n ≤ 10 ∧ ∀ q, post (.ptr q) [(q, .lst ((tabD n fun β => β k).map .d))]
theorem mon_lCoin : Mon spLCoin := fun xs R p p' e e' h _ ⟨n, k, h1, h2, h3, h4, q⟩ => ⟨n, k, h1, h2, h3, h4, fun z => h _ _ (q z)⟩
theorem pw10 {n : Nat} (h : n ≤ 10) : 2 ^ n ≤ 1024 := Nat.le_trans (Nat.pow_le_pow_right (by decide) h) (by decide)
theorem rng10 {n : Nat} (h : n ≤ 10) : -(2 ^ 62) ≤ ((2 ^ n : Nat) : Int) ∧ ((2 ^ n : Nat) : Int) < 2 ^ 62 :=
  ⟨Int.le_trans (by decide) (Int.natCast_nonneg _), Int.lt_of_le_of_lt (Int.ofNat_le.mpr (pw10 h)) (by decide)⟩
theorem c__law_coin (d : Df K mg "_law_coin" s__law_coin ["many", "k"]) (B : Blt mg) : Cal P w K mg base 1 "_law_coin" ["many", "k"] spLCoin := d.cal mon_lCoin fun f fd F => by
  refine okA F sc__law_coin lc__law_coin (fun xs R q e h => ?_) ?_
  · obtain ⟨n, k, rfl, _⟩ := h; rfl
  rintro X hX hU hr ⟨cdv, Ar, outer, s, H, E, rfl⟩ xs R post exc ⟨n, k, rfl, rfl, hk, hn, kont⟩
  show ASs _ _ (defBody s__law_coin) [("many", some (.i n)), ("k", some (.i k)), ("index", none)] _ _
  have hsz : 2000000 < sizeLine := by decide
  have hpw := pw10 hn
  walk_at "go"
  refine ae_lc [("index", 2)] [("many", none), ("k", some (.i k)), ("index", none)] _ hX (blkOk_cx (by decide +kernel)) (.drop (.keep (by decide) (bx_vis (by decide +kernel)) (.drop .nil))) (lc_fm (i := 2) (rbG fun i => bitF n i k) (rangeA 0 (2 ^ n)) [] hX rfl (by decide) (by decide +kernel) (by decide +kernel) ?_)
  refine ai_range1 B.range ?_
  walk_at "go"
  refine ba_shl ⟨Int.natCast_nonneg _, by omega, by decide⟩ ?_
  rw [two_shl]
  walk_at "go"
  refine ⟨_, rfl, (rng10 hn).1, (rng10 hn).2, by rw [Int.toNat_natCast], Le.refl _, by rw [rangeA_len]; omega, fun _ _ => trivial, fun D acc c hc => ?_, fun D => ?_⟩
  · obtain ⟨j, hj0⟩ := List.mem_iff_getElem?.mp hc
    obtain ⟨hj, rfl⟩ := rangeA_get hj0
    clear hj0
    refine ⟨_, (.there (.there (.here))), fun X' hx' => ⟨fun _ => ?_, fun z => by cases z⟩⟩
    rintro X' ⟨s', H', C', cl', fp', rfl⟩
    rw [Int.zero_add]
    walk_at "go"
    refine ba_shr (Int.natCast_nonneg _) ?_
    walk_at "go"
    refine ba_band ?_
    walk_at "go"
    rw [shr_and]
    exact ⟨by show some (A.b (bitF n ((j : Int)).toNat k)) = _; rw [Int.toNat_natCast, bitF_test, decide_eq_true hk, Bool.true_and], _, .here, Le.refl _⟩
  · rw [rbG_eq]
    exact ⟨_, Le.refl _, kont D⟩
def spMixed : ASp := fun xs R post _ => ∃ (n : Nat) (T F G : (Nat → Bool) → Bool), xs = [.l (tabD n T), .l (tabD n F), .l (tabD n G)] ∧ R = [] ∧ n ≤ 10 ∧ ∀ q, post (.ptr q) [(q, .lst ((tabD n fun β => if T β then F β else G β).map .d))]
theorem mon_mixed : Mon spMixed := fun xs R p p' e e' h _ ⟨n, T, F, G, h1, h2, h3, q⟩ => ⟨n, T, F, G, h1, h2, h3, fun z => h _ _ (q z)⟩
theorem c__law_mixed (d : Df K mg "_law_mixed" s__law_mixed ["test", "first", "second"]) (B : Blt mg) : Cal P w K mg base 1 "_law_mixed" ["test", "first", "second"] spMixed := d.cal mon_mixed fun f fd F => by
  have bLen := B.len
  refine okA F sc__law_mixed lc__law_mixed (fun xs R q e h => ?_) ?_
  · obtain ⟨n, T, F, G, rfl, _⟩ := h; rfl
  rintro X hX hU hr ⟨cdv, Ar, outer, s, H, E, rfl⟩ xs R post exc ⟨n, T, F, G, rfl, rfl, hn, kont⟩
  show ASs _ _ (defBody s__law_mixed) [("test", some (.l (tabD n T))), ("first", some (.l (tabD n F))), ("second", some (.l (tabD n G))), ("k", none)] _ _
  have hsz : 2000000 < sizeLine := by decide
  have hpw := pw10 hn
  walk_at "go"
  refine ae_lc [("k", 3)] [("test", some (.l (tabD n T))), ("first", some (.l (tabD n F))), ("second", some (.l (tabD n G))), ("k", none)] _ hX (blkOk_cx (by decide +kernel)) (.keep (by decide) (bx_vis (by decide +kernel)) (.keep (by decide) (bx_vis (by decide +kernel)) (.keep (by decide) (bx_vis (by decide +kernel)) (.drop .nil)))) (lc_fm (i := 3) (rbG fun i => if T (bitF n i) then F (bitF n i) else G (bitF n i)) (rangeA 0 (2 ^ n)) [] hX rfl (by decide) (by decide +kernel) (by decide +kernel) ?_)
  refine ai_range1 B.range ?_
  walk_at "go"
  rw [tabD_len]
  refine ⟨_, rfl, (rng10 hn).1, (rng10 hn).2, by rw [Int.toNat_natCast], Le.refl _, by rw [rangeA_len]; omega, fun _ _ => trivial, fun D acc c hc => ?_, fun D => ?_⟩
  · obtain ⟨j, hj0⟩ := List.mem_iff_getElem?.mp hc
    obtain ⟨hj, rfl⟩ := rangeA_get hj0
    clear hj0
    refine ⟨_, (.there (.there (.there (.here)))), fun X' hx' => ⟨fun _ => ?_, fun z => by cases z⟩⟩
    rintro X' ⟨s', H', C', cl', fp', rfl⟩
    rw [Int.zero_add]
    walk_at "go"
    refine ia_l (tabD_at T hj) ?_
    show ∃ k, TruA (A.b (T (bitF n j))) _ k ∧ _
    refine ⟨_, rfl, fun ht => ?_, fun ht => ?_⟩
    · walk_at "go"
      refine ia_l (tabD_at F hj) ?_
      exact ⟨by show some (A.b (if T (bitF n ((j : Int)).toNat) = true then F (bitF n ((j : Int)).toNat) else G (bitF n ((j : Int)).toNat))) = _; rw [Int.toNat_natCast, if_pos ht], _, .here, Le.refl _⟩
    · walk_at "go"
      refine ia_l (tabD_at G hj) ?_
      exact ⟨by show some (A.b (if T (bitF n ((j : Int)).toNat) = true then F (bitF n ((j : Int)).toNat) else G (bitF n ((j : Int)).toNat))) = _; rw [Int.toNat_natCast, if_neg (by rw [ht]; decide)], _, .here, Le.refl _⟩
  · rw [rbG_eq]
    exact ⟨_, Le.refl _, kont D⟩
def spHalves : ASp := fun xs R post _ => ∃ (n k : Nat) (T : (Nat → Bool) → Bool), xs = [.l (tabD n T), .i k, .i n] ∧ R = [] ∧ k < n ∧ n ≤ 10 ∧ ∀ q, post (.ptr q) [(q, .lst [.l (tabD n fun β => T (putB β k false)), .l (tabD n fun β => T (putB β k true))])]
theorem mon_halves : Mon spHalves := fun xs R p p' e e' h _ ⟨n, k, T, h1, h2, h3, h4, q⟩ => ⟨n, k, T, h1, h2, h3, h4, fun z => h _ _ (q z)⟩
theorem c__law_halves (d : Df K mg "_law_halves" s__law_halves ["table", "k", "many"]) (B : Blt mg) : Cal P w K mg base 1 "_law_halves" ["table", "k", "many"] spHalves := d.cal mon_halves fun f fd F => by
  refine okA F sc__law_halves lc__law_halves (fun xs R q e h => ?_) ?_
  · obtain ⟨n, k, T, rfl, _⟩ := h; rfl
  rintro X hX hU hr ⟨cdv, Ar, outer, s, H, E, rfl⟩ xs R post exc ⟨n, k, T, rfl, rfl, hk, hn, kont⟩
  show ASs _ _ (defBody s__law_halves) [("table", some (.l (tabD n T))), ("k", some (.i k)), ("many", some (.i n)), ("low", none), ("high", none), ("index", none)] _ _
  have hsz : 2000000 < sizeLine := by decide
  have hpw := pw10 hn
  have hp : 2 ^ k < 2 ^ n := Nat.pow_lt_pow_right (by decide) hk
  walk_at "go"
  refine as_setLc (i := 3) [("index", 5)] [("table", some (.l (tabD n T))), ("k", some (.i k)), ("many", some (.i n)), ("low", none), ("high", none), ("index", none)] _ hX (by decide) rfl rfl rfl (blkOk_cx (by decide +kernel)) (.keep (by decide) (bx_vis (by decide +kernel)) (.keep (by decide) (bx_vis (by decide +kernel)) (.keep (by decide) (bx_vis (by decide +kernel)) (.drop (.drop (.drop .nil)))))) (lc_fm (i := 5) (rbG fun i => T (putB (bitF n i) k false)) (rangeA 0 (2 ^ n)) [] hX rfl (by decide) (by decide +kernel) (by decide +kernel) ?_)
  refine ai_range1 B.range ?_
  walk_at "go"
  refine ba_shl ⟨Int.natCast_nonneg _, by omega, by decide⟩ ?_
  rw [two_shl]
  walk_at "go"
  refine ⟨_, rfl, (rng10 hn).1, (rng10 hn).2, by rw [Int.toNat_natCast], Le.refl _, by rw [rangeA_len]; omega, fun _ _ => trivial, fun D acc c hc => ?_, fun D => ?_⟩
  · obtain ⟨j, hj0⟩ := List.mem_iff_getElem?.mp hc
    obtain ⟨hj, rfl⟩ := rangeA_get hj0
    clear hj0
    refine ⟨_, (.there (.there (.there (.there (.there (.here)))))), fun X' hx' => ⟨fun _ => ?_, fun z => by cases z⟩⟩
    rintro X' ⟨s', H', C', cl', fp', rfl⟩
    rw [Int.zero_add]
    walk_at "go"
    refine ba_shl ⟨Int.natCast_nonneg _, by omega, by decide⟩ ?_
    rw [two_shl]
    walk_at "go"
    refine ba_shl ⟨Int.natCast_nonneg _, by omega, by decide⟩ ?_
    rw [two_shl]
    walk_at "go"
    refine ba_band ?_
    obtain ⟨c1, c2⟩ := bit_clear hk hj
    rw [show ((2 ^ n : Nat) : Int) - 1 - ((2 ^ k : Nat) : Int) = ((2 ^ n - 1 - 2 ^ k : Nat) : Int) by omega, bitAnd_pp (Int.natCast_nonneg _) (Int.natCast_nonneg _), Int.toNat_natCast, Int.toNat_natCast]
    refine ia_l (tabD_at T c1) ?_
    rw [c2]
    exact ⟨by show some (A.b (T (putB (bitF n ((j : Int)).toNat) k false))) = _; rw [Int.toNat_natCast], _, .here, Le.refl _⟩
  rw [rbG_eq]
  refine ⟨_, (.there (.there (.there (.here)))), ?_⟩
  show ASs _ _ _ _ _ _
  refine as_fz (.there (.there (.there (.here)))) (.there (.there (.there (.here)))) .here (AsD.map _) hX.nd ?_
  walk_at "go"
  refine as_setLc (i := 4) [("index", 5)] [("table", some (.l (tabD n T))), ("k", some (.i k)), ("many", none), ("low", none), ("high", none), ("index", none)] _ hX (by decide) rfl rfl rfl (blkOk_cx (by decide +kernel)) (.keep (by decide) (bx_vis (by decide +kernel)) (.keep (by decide) (bx_vis (by decide +kernel)) (.drop (.drop (.drop (.drop .nil)))))) (lc_fm (i := 5) (rbG fun i => T (putB (bitF n i) k true)) (rangeA 0 (2 ^ n)) [] hX rfl (by decide) (by decide +kernel) (by decide +kernel) ?_)
  refine ai_range1 B.range ?_
  walk_at "go"
  refine ba_shl ⟨Int.natCast_nonneg _, by omega, by decide⟩ ?_
  rw [two_shl]
  walk_at "go"
  refine ⟨_, rfl, (rng10 hn).1, (rng10 hn).2, by rw [Int.toNat_natCast], Le.refl _, by rw [rangeA_len]; omega, fun _ _ => trivial, fun D acc c hc => ?_, fun D => ?_⟩
  · obtain ⟨j, hj0⟩ := List.mem_iff_getElem?.mp hc
    obtain ⟨hj, rfl⟩ := rangeA_get hj0
    clear hj0
    refine ⟨_, (.there (.there (.there (.there (.there (.here)))))), fun X' hx' => ⟨fun _ => ?_, fun z => by cases z⟩⟩
    rintro X' ⟨s', H', C', cl', fp', rfl⟩
    rw [Int.zero_add]
    walk_at "go"
    refine ba_shl ⟨Int.natCast_nonneg _, by omega, by decide⟩ ?_
    rw [two_shl]
    walk_at "go"
    refine ba_bor ?_
    obtain ⟨c1, c2⟩ := bit_set hk hj
    rw [bitOr_nn (Int.natCast_nonneg _) (Int.natCast_nonneg _), Int.toNat_natCast, Int.toNat_natCast]
    refine ia_l (tabD_at T c1) ?_
    rw [c2]
    exact ⟨by show some (A.b (T (putB (bitF n ((j : Int)).toNat) k true))) = _; rw [Int.toNat_natCast], _, .here, Le.refl _⟩
  rw [rbG_eq]
  refine ⟨_, (.there (.there (.there (.there (.here))))), ?_⟩
  show ASs _ _ _ _ _ _
  refine as_fz (.there (.there (.there (.there (.here))))) (.there (.there (.there (.there (.here))))) .here (AsD.map _) hX.nd ?_
  walk_at "go"
  exact ⟨le_two, fun q => ⟨_, Le.refl _, kont q⟩⟩
def dpd (n : Nat) (T : (Nat → Bool) → Bool) (k : Nat) : Bool := decide (tabF n (fun β => T (putB β k false)) ≠ tabF n (fun β => T (putB β k true)))
def needsF (n : Nat) (T : (Nat → Bool) → Bool) : List Nat := (List.range n).filter (dpd n T)
def spNeeds : ASp := fun xs R post _ => ∃ (n : Nat) (T : (Nat → Bool) → Bool), xs = [.l (tabD n T), .i n] ∧ R = [] ∧ n ≤ 10 ∧ ∀ q, post (.ptr q) [(q, .lst ((needsF n T).map fun k : Nat => A.i k))]
theorem mon_needs : Mon spNeeds := fun xs R p p' e e' h _ ⟨n, T, h1, h2, h3, q⟩ => ⟨n, T, h1, h2, h3, fun z => h _ _ (q z)⟩
theorem c__law_needs (d : Df K mg "_law_needs" s__law_needs ["table", "many"]) (B : Blt mg) (m1 : Cal P w K mg base 1 "_law_halves" ["table", "k", "many"] spHalves) : Cal P w K mg base 2 "_law_needs" ["table", "many"] spNeeds := d.cal mon_needs fun f fd F => by
  refine okA F sc__law_needs lc__law_needs (fun xs R q e h => ?_) ?_
  · obtain ⟨n, T, rfl, _⟩ := h; rfl
  rintro X hX hU hr ⟨cdv, Ar, outer, s, H, E, rfl⟩ xs R post exc ⟨n, T, rfl, rfl, hn, kont⟩
  show ASs _ _ (defBody s__law_needs) [("table", some (.l (tabD n T))), ("many", some (.i n)), ("found", none), ("k", none), ("pair", none)] _ _
  have hsz : 2000000 < sizeLine := by decide
  walk_at "go"
  refine as_for (fun i δ R => ∃ (q : Addr) (v1 v2 : Option AL.A), i ≤ n ∧ δ = ([("table", some (.l (tabD n T))), ("many", some (.i n)), ("found", some (.ptr q)), ("k", v1), ("pair", v2)] : SL) ∧ R = [(q, .lst (((List.range i).filter (dpd n T)).map fun k : Nat => A.i k))]) hX ?_
  refine ai_range1 B.range ?_
  walk_at "go"
  refine ⟨_, rfl, by omega, by omega, Wk.self ⟨_, _, _, Nat.zero_le _, rfl, rfl⟩, fun _ _ _ _ => trivial, ?_, ?_⟩
  · rintro i x δ R hi0 ⟨q, v1, v2, hin, rfl, rfl⟩
    obtain ⟨hi, rfl⟩ := rangeA_get hi0
    clear hi0
    rw [Int.toNat_natCast] at hi
    rw [Int.zero_add]
    have hfl := List.length_filter_le (dpd n T) (List.range i)
    rw [List.length_range] at hfl
    have hln : (((List.range i).filter (dpd n T)).map fun k : Nat => A.i k).length < sizeLine := by rw [List.length_map]; omega
    have hsuc : (List.range (i + 1)).filter (dpd n T) = (List.range i).filter (dpd n T) ++ if dpd n T i = true then [i] else [] := by
      rw [List.range_succ, List.filter_append]; congr 1
      by_cases z : dpd n T i = true
      · rw [if_pos z, List.filter_cons_of_pos z]; rfl
      · rw [if_neg z, List.filter_cons_of_neg z]; rfl
    walk_at "go"
    refine ⟨[], _, .nil, n, i, T, rfl, rfl, hi, hn, fun q2 => ?_⟩
    show AG _ _ _ _ _ [(q2, .lst [.l (tabD n fun β => T (putB β i false)), .l (tabD n fun β => T (putB β i true))]), (q, .lst (((List.range i).filter (dpd n T)).map fun k : Nat => A.i k))] _
    walk_at "go"
    refine ba_neD hU (shaped_bools _) (shaped_bools _) ?_
    rw [eqv_boolsL]
    walk_at "go"
    refine ⟨fun hd => ?_, fun hd => ?_⟩
    · have hd2 : dpd n T i = true := by
        unfold dpd
        refine decide_eq_true fun e => ?_
        rw [e] at hd; simp at hd
      walk_at "go"
      rw [if_pos hd2] at hsuc
      have e : (((List.range i).filter (dpd n T)).map fun k : Nat => A.i k) ++ [A.i (i : Int)] = ((List.range (i + 1)).filter (dpd n T)).map fun k : Nat => A.i k := by rw [hsuc, List.map_append]; rfl
      rw [e]
      exact ⟨_, _, Le.drop, Fg.refl _, q, _, _, by omega, rfl, rfl⟩
    · have hd2 : ¬ dpd n T i = true := by
        intro z
        have := of_decide_eq_true (p := tabF n (fun β => T (putB β i false)) ≠ tabF n (fun β => T (putB β i true))) z
        rw [decide_eq_false this] at hd; cases hd
      walk_at "go"
      rw [if_neg hd2, List.append_nil] at hsuc
      rw [← hsuc]
      exact ⟨_, _, Le.drop, Fg.refl _, q, _, _, by omega, rfl, rfl⟩
  · rintro δ R ⟨q, v1, v2, hin, rfl, rfl⟩
    rw [rangeA_len, Int.toNat_natCast]
    walk_at "go"
    exact ⟨_, Le.refl _, kont q⟩
end

end
section
local macro_rules | `(tactic| walk_at "flk") => `(tactic| first | exact stF_lv _ | exact stF_lo _ | exact stF_hi _ | exact stF_nd _ | exact stF_ch _)
local macro_rules | `(tactic| walk_at "len") => `(tactic| first | omega | (simp only [Sto.lvs, Sto.los, Sto.his, List.length_map, ndD, ndG_len, chD, List.length_append, List.length_cons, List.length_nil]; omega))
local macro_rules | `(tactic| walk_at "ixl") => `(tactic| first | rfl | (refine lvs_at ?_ ?_ <;> omega) | (refine los_at ?_ ?_ <;> omega) | (refine his_at ?_ ?_ <;> omega))

/-! ### a comprehension in a comprehension; permuted resources; lists compared -/
theorem xd_blk {X X' : Cx} {L : List Str} {scope : Scope} (h : XD X L) (hx : BX X scope X') : XD X' [] := by
  obtain ⟨s, H, C, cl, fp, rfl⟩ := hx
  exact ⟨h.nd, fun x hx => by simp at hx, h.calm, PassesOwn.never⟩
theorem blkOk_cx2 {P : Program} {w : World} {K : PySem.W.Frag} {mg : Str → Option Value} {base : Heap} {N : List Str} {qual : Str} {st : Stmt} {f : Addr} {cdv : Value} {Ar : Around} {outer : List Env} {s : Shared} {H : Hp} {E : XK} {scope1 scope : Scope} {own : List (Str × Nat)}
    {s' : Shared} {H' : Hp} {C' : Addr} {cl' : List (Str × Addr)} {fp' : List Addr} (h : blkC N (relS scope1 (defScope st)) scope own = true) :
    BlkOk ((cxOf (L2.CX P w) P w K mg base N qual (defScope st) f cdv Ar outer s H E).blk s' H' scope1 (compEnvC scope1 cl' C' (cxOf (L2.CX P w) P w K mg base N qual (defScope st) f cdv Ar outer s H E).env) fp').N
      ((cxOf (L2.CX P w) P w K mg base N qual (defScope st) f cdv Ar outer s H E).blk s' H' scope1 (compEnvC scope1 cl' C' (cxOf (L2.CX P w) P w K mg base N qual (defScope st) f cdv Ar outer s H E).env) fp').env.scope scope own := blkOk_by h
theorem Le.appR : ∀ (l : RL) {R : RL}, Le (l ++ R) R
  | [], R => Le.refl R
  | _ :: l, _ => Le.trans Le.drop (Le.appR l)
theorem Le.perm {R R' : RL} (h : R.Perm R') : Le R R' := ⟨fun _ hx => h.mem_iff.mpr hx, fun n => ((h.map (·.1)).nodup_iff).mp n⟩
section
variable {X : Cx} {R : RL} {post : A → RL → Prop} {U V : Res → RL} {p q : Addr} {xs ys : List A} {ds es : List PyData}
/-- two lists of data compared where they stand -/
theorem ba_neL (hu : XU X) (h1 : Sel R p (.lst xs) U) (h2 : Sel R q (.lst ys) V) (d1 : AsD xs ds) (d2 : AsD ys es) (s1 : SeqAt.shaped (.list ds) = true) (s2 : SeqAt.shaped (.list es) = true) (k : post (.b (!PyData.eqv (.list ds) (.list es))) R) : BA X (compareOp .NotEq) (.ptr p) (.ptr q) R post :=
  BA.of (op_neD hu) fun P H v w ha hb hW Q c => by
    cases (show v = .ref p from ha)
    cases (show w = .ref q from hb)
    obtain rfl := d1.eq
    obtain rfl := d2.eq
    obtain ⟨vs, a1, a2⟩ := hW.get h1
    obtain ⟨ws, b1, b2⟩ := hW.get h2
    exact ⟨.list ds, .list es, .lst (SqL.of a1) (dpAll_mono hW.sub (pav_dpAll a2)), .lst (SqL.of b1) (dpAll_mono hW.sub (pav_dpAll b2)), s1, s2, c _ _ R P H k (.bl _) hW Stp.refl⟩
theorem ba_eqL (hu : XU X) (h1 : Sel R p (.lst xs) U) (h2 : Sel R q (.lst ys) V) (d1 : AsD xs ds) (d2 : AsD ys es) (s1 : SeqAt.shaped (.list ds) = true) (s2 : SeqAt.shaped (.list es) = true) (k : post (.b (PyData.eqv (.list ds) (.list es))) R) : BA X (compareOp .Eq) (.ptr p) (.ptr q) R post :=
  BA.of (op_eqD hu) fun P H v w ha hb hW Q c => by
    cases (show v = .ref p from ha)
    cases (show w = .ref q from hb)
    obtain rfl := d1.eq
    obtain rfl := d2.eq
    obtain ⟨vs, a1, a2⟩ := hW.get h1
    obtain ⟨ws, b1, b2⟩ := hW.get h2
    exact ⟨.list ds, .list es, .lst (SqL.of a1) (dpAll_mono hW.sub (pav_dpAll a2)), .lst (SqL.of b1) (dpAll_mono hW.sub (pav_dpAll b2)), s1, s2, c _ _ R P H k (.bl _) hW Stp.refl⟩
end
theorem perm_snoc {α : Type} (x : α) (l r : List α) : (x :: (l ++ r)).Perm ((l ++ [x]) ++ r) := by
  rw [List.append_assoc]
  exact (List.perm_middle).symm
theorem Rem.perm {R R' : RL} {a : Addr} {r : Res} (h : Rem R a r R') : R.Perm ((a, r) :: R') := by
  induction h with
  | here => exact .refl _
  | there _ ih => exact (ih.cons _).trans (.swap _ _ _)
theorem Spl.perm {R R0 Rr : RL} (h : Spl R R0 Rr) : (R0 ++ Rr).Perm R := by
  induction h with
  | nil => exact .refl _
  | cons h t ih => exact (ih.cons _).trans h.perm.symm
theorem Rem.app {R R' : RL} {a : Addr} {r : Res} (h : Rem R a r R') : ∀ l : RL, Rem (l ++ R) a r (l ++ R')
  | [] => h
  | _ :: l => .there (h.app l)
theorem Spl.app {R R0 Rr : RL} (l : RL) (h : Spl R R0 Rr) : Spl (l ++ R) R0 (l ++ Rr) := by
  induction h with
  | nil => exact .nil
  | cons h t ih => exact .cons (h.app l) ih

/-! ### the law's deeds -/
local macro_rules | `(tactic| walk_at "ae") => `(tactic| first
  | ((with_reducible show AE _ _ (Expr.BinOp (Expr.List _ _) Operator.Mult _ _) _ _ _); refine ae_fz (ae_bin ?_))
  | ((with_reducible show AE _ _ (Expr.Call (Expr.Name "_law_mixed" _) _ _ _) _ _ _); refine ae_fz ?_; refine' ae_call (by assumption) (by assumption) (by decide) ?_)
  | ((with_reducible show AE _ _ (Expr.Call (Expr.Name "_law_coin" _) _ _ _) _ _ _); refine ae_fz ?_; refine' ae_call (by assumption) (by assumption) (by decide) ?_))
/-- the tables of the references -/
abbrev tabsA (n : Nat) (N : List K3) (rs : List Nat) : List A := rs.map fun r => A.l (tabD n fun β => ev N β r)
abbrev DdR (CS : Addr) (a : Sad) (S : Sto) (pa pb : Addr) (p : Pl) (rf tb : Addr) (n : Nat) (rs : List Nat) : RL := (pa, p.res pb) :: (pb, p.lst) :: (rf, .lst (rs.map fun v : Nat => A.i v)) :: (tb, .lst (tabsA n S.N rs)) :: Sto.rs CS a S
theorem tabs_grow {n g : Nat} {S T : Sto} {rs : List Nat} (hS : SOk n S) (hT : SOk n T) (G : Grow S T g) (h : ∀ r ∈ rs, r < S.N.length + 2) : tabsA n T.N rs = tabsA n S.N rs := by
  refine List.map_congr_left fun r hr => ?_
  have e : (fun β => ev T.N β r) = fun β => ev S.N β r := funext fun β => G.ev hS hT β (h r hr)
  rw [e]
/-- what a deed gives -/
structure DdO (n : Nat) (S T : Sto) (v : Nat) (F : (Nat → Bool) → Bool) : Prop where
  ok : SOk n T
  red : NRed T.N
  grow : Grow S T (4 * 2 ^ n + 4)
  lt : v < T.N.length + 2
  ev : ∀ i, i < 2 ^ n → F (bitF n i) = AL.ev T.N (bitF n i) v
theorem DdO.ofCh {n : Nat} {S T : Sto} {k : K3} {v : Nat} (hR : NRed S.N) (h : ChR n S T k v) {F : (Nat → Bool) → Bool} (hF : ∀ β, F β = if AL.ev S.N β k.1 then AL.ev S.N β k.2.1 else AL.ev S.N β k.2.2) : DdO n S T v F :=
  ⟨h.ok, h.red hR, h.grow.mono (by omega), h.lt, fun i _ => by rw [h.ev, hF]⟩
theorem rep_single {α : Type} (x : α) (n : Nat) : (List.replicate n [x]).flatten = List.replicate n x := by
  induction n with
  | zero => rfl
  | succ n ih => rw [List.replicate_succ, List.flatten_cons, ih, List.replicate_succ]; rfl
theorem tab_rep (n : Nat) (b : Bool) : (List.replicate ((2 ^ n : Nat) : Int).toNat [A.b b]).flatten = (tabD n fun _ => b).map A.d := by
  rw [rep_single, Int.toNat_natCast]
  unfold tabD
  rw [tabF_const, List.map_replicate, List.map_replicate]
/-- reading references by their places -/
def rfG (rs : List Nat) (x : A) : Option A := match x with
  | .d (.int z) => some (.i ((rs.getD z.toNat 0 : Nat) : Int))
  | _ => none
theorem rfG_eq (rs ws : List Nat) : ((ws.map fun v : Nat => PyData.int v).map A.d).filterMap (rfG rs) = (ws.map fun z => rs.getD z 0).map fun v : Nat => A.i v := by
  induction ws with
  | nil => rfl
  | cons v r ih =>
    rw [List.map_cons, List.map_cons, List.map_cons, List.map_cons, List.filterMap_cons_some (f := rfG rs) (b := A.i ((rs.getD v 0 : Nat) : Int)) rfl, ih]
/-- no coin up to k matters to the table -/
def freeT (n k : Nat) (T : (Nat → Bool) → Bool) : List Nat := (needsF n T).filter fun j => decide (j ≤ k)
def leG (k : Nat) (x : A) : Option A := match x with
  | .d (.int v) => if v ≤ (k : Int) then some (.i v) else none
  | _ => none
theorem leG_eq (k : Nat) (l : List Nat) : ((l.map fun v : Nat => PyData.int v).map A.d).filterMap (leG k) = (l.filter fun j => decide (j ≤ k)).map fun v : Nat => A.i v := by
  induction l with
  | nil => rfl
  | cons v r ih =>
    rw [List.map_cons, List.map_cons]
    by_cases h : v ≤ k
    · rw [List.filterMap_cons_some (f := leG k) (b := A.i v) (by show (if (v : Int) ≤ (k : Int) then _ else _) = _; rw [if_pos (by omega)]), ih, List.filter_cons_of_pos (by exact decide_eq_true h), List.map_cons]
    · rw [List.filterMap_cons_none (f := leG k) (by show (if (v : Int) ≤ (k : Int) then _ else _) = _; rw [if_neg (by omega)]), ih, List.filter_cons_of_neg (by simpa using h)]
def fitB (n k : Nat) (N : List K3) (rs : List Nat) (j : Nat) : Bool := decide (((freeT n k fun β => ev N β (rs.getD j 0)).length : Int) = 0)
def fitG (n k : Nat) (N : List K3) (rs : List Nat) (x : A) : Option A := match x with
  | .d (.int j) => if fitB n k N rs j.toNat = true then some (.i j) else none
  | _ => none
theorem fitG_eq (n k : Nat) (N : List K3) (rs : List Nat) (m : Nat) : (rangeA 0 m).filterMap (fitG n k N rs) = ((List.range m).filter (fitB n k N rs)).map fun v : Nat => A.i v := by
  unfold rangeA
  generalize List.range m = l
  induction l with
  | nil => rfl
  | cons v r ih =>
    rw [List.map_cons]
    by_cases h : fitB n k N rs v = true
    · rw [List.filterMap_cons_some (f := fitG n k N rs) (b := A.i v) (by show (if fitB n k N rs ((0 : Int) + (v : Int)).toNat = true then _ else _) = _; rw [Int.zero_add, Int.toNat_natCast, if_pos h]), ih, List.filter_cons_of_pos h, List.map_cons]
    · rw [List.filterMap_cons_none (f := fitG n k N rs) (by show (if fitB n k N rs ((0 : Int) + (v : Int)).toNat = true then _ else _) = _; rw [Int.zero_add, Int.toNat_natCast, if_neg h]), ih, List.filter_cons_of_neg h]
theorem fit_geL {n k : Nat} {S : Sto} {rs : List Nat} {j : Nat} (hS : SOk n S) (hR : NRed S.N) (hk : k < n) (hr : rs.getD j 0 < S.N.length + 2) (h : fitB n k S.N rs j = true) : geL S.N (k + 1) (rs.getD j 0) := by
  refine geL_of hS.nodes hR hr fun l hl β => ?_
  have h0 : (freeT n k fun β => ev S.N β (rs.getD j 0)).length = 0 := by have := of_decide_eq_true h; omega
  have hnot : ¬ dpd n (fun β => ev S.N β (rs.getD j 0)) l = true := fun z => by
    have hm : l ∈ freeT n k fun β => ev S.N β (rs.getD j 0) := List.mem_filter.mpr ⟨List.mem_filter.mpr ⟨List.mem_range.mpr (by omega), z⟩, decide_eq_true (by omega)⟩
    rw [List.length_eq_zero_iff.mp h0] at hm
    cases hm
  have heq : tabF n (fun β => ev S.N (putB β l false) (rs.getD j 0)) = tabF n (fun β => ev S.N (putB β l true) (rs.getD j 0)) := Classical.byContradiction fun z => hnot (decide_eq_true z)
  obtain ⟨i, hi, hb⟩ := bitF_onto n β
  have := tabF_eq heq i hi
  have ag : ∀ v, ev S.N (putB β l v) (rs.getD j 0) = ev S.N (putB (bitF n i) l v) (rs.getD j 0) := fun v => ev_below hS.nodes (fun q hq => by unfold putB; split; rfl; exact (hb q hq).symm) _ hr
  rw [ag, ag]
  exact this
theorem fit_zero (n k : Nat) (N : List K3) {rs : List Nat} (h : rs[0]? = some 0) : fitB n k N rs 0 = true := by
  unfold fitB freeT needsF
  have e : rs.getD 0 0 = 0 := by rw [List.getD_eq_getElem?_getD, h]; rfl
  have hn : (List.range n).filter (dpd n fun β => ev N β (rs.getD 0 0)) = [] := List.filter_eq_nil_iff.mpr fun l _ z => by
    have := of_decide_eq_true (p := tabF n (fun β => ev N (putB β l false) (rs.getD 0 0)) ≠ tabF n (fun β => ev N (putB β l true) (rs.getD 0 0))) z
    refine this (tabF_congr fun i _ => ?_)
    rw [e, ev_one _ _ (by decide), ev_one _ _ (by decide)]
  rw [hn]; rfl
section
variable {P : Program} {w : World} {K : PySem.W.Frag} {mg : Str → Option Value} {base : Heap} {CS : Addr}
def spDeed (CS : Addr) : ASp := fun xs R post _ => ∃ (a : Sad) (S : Sto) (pa pb : Addr) (p : Pl) (rf tb : Addr) (n : Nat) (rs : List Nat), xs = [.ptr pa, .ptr a.s, .ptr rf, .ptr tb, .l ((List.range n).map fun v : Nat => .int v)] ∧ R = DdR CS a S pa pb p rf tb n rs ∧ p.at_ ≤ p.ns.length ∧
  SOk n S ∧ NRed S.N ∧ (∀ r ∈ rs, r < S.N.length + 2) ∧ rs[0]? = some 0 ∧ rs.length ≤ 100 ∧ n ≤ 10 ∧ S.N.length < 1000000 ∧ S.C.length < 1000000 ∧
  ∀ (p' : Pl) (T : Sto) (v : Nat) (F : (Nat → Bool) → Bool), p'.ns = p.ns → p'.at_ ≤ p'.ns.length → DdO n S T v F → post (.t [.int v, .list (tabD n F)]) (DdR CS a T pa pb p' rf tb n rs)
theorem mon_deed (CS : Addr) : Mon (spDeed CS) := fun xs R p p' e e' h _ ⟨a, S, pa, pb, pl, rf, tb, n, rs, h1, h2, h3, h4, h5, h6, h7, h8, h9, h10, h11, k⟩ => ⟨a, S, pa, pb, pl, rf, tb, n, rs, h1, h2, h3, h4, h5, h6, h7, h8, h9, h10, h11, fun p' T v F z1 z2 z3 => h _ _ (k p' T v F z1 z2 z3)⟩
theorem c__law_deed (d : Df K mg "_law_deed" s__law_deed ["pool", "store", "refs", "tables", "levels"]) (B : Blt mg) (T2 : StoC K mg CS) (md : Cal P w K mg base 2 "_law_draw" ["pool", "many"] spLawDraw) (mMix : Cal P w K mg base 1 "_law_mixed" ["test", "first", "second"] spMixed) (mCoin : Cal P w K mg base 1 "_law_coin" ["many", "k"] spLCoin) (mNeeds : Cal P w K mg base 2 "_law_needs" ["table", "many"] spNeeds)
    (mNeg : Mcal P w K mg base 4 CS "negate" ["self", "a"] (spUn CS fun x => (x, 0, 1))) (mBoth : Mcal P w K mg base 4 CS "both" ["self", "a", "b"] (spBin CS fun x y => (x, y, 0))) (mEither : Mcal P w K mg base 4 CS "either" ["self", "a", "b"] (spBin CS fun x y => (x, 1, y))) (mWithout : Mcal P w K mg base 4 CS "without" ["self", "a", "b"] (spBin CS fun x y => (y, 0, x)))
    (mEithers : Mcal P w K mg base 5 CS "either_of" ["self", "references"] (spEithers CS)) (mSC : Mcal P w K mg base 2 CS "coin" ["self", "level"] (spCoin CS)) (mNode : Mcal P w K mg base 1 CS "node" ["self", "level", "low", "high"] (spNode CS)) (mChoose : Mcal P w K mg base 3 CS "choose" ["self", "c", "a", "b"] (spChoose CS)) :
    Cal P w K mg base 6 "_law_deed" ["pool", "store", "refs", "tables", "levels"] (spDeed CS) := d.cal (mon_deed CS) fun f fd F => by
  have bLen := B.len
  have bList := B.list
  refine okA F sc__law_deed lc__law_deed (fun xs R q e h => ?_) ?_
  · obtain ⟨a, S, pa, pb, p, rf, tb, n, rs, rfl, _⟩ := h; rfl
  rintro X hX hU hr ⟨cdv, Ar, outer, s, H, E, rfl⟩ xs R post exc ⟨a, S, pa, pb, p, rf, tb, n, rs, rfl, rfl, hp, hS, hR, hrs, h0, hrl, hn, hSN, hSC, kont⟩
  show ASs _ _ (defBody s__law_deed) [("pool", some (.ptr pa)), ("store", some (.ptr a.s)), ("refs", some (.ptr rf)), ("tables", some (.ptr tb)), ("levels", some (.l ((List.range n).map fun v : Nat => .int v))), ("many", none), ("turn", none), ("at", none), ("a", none), ("b", none), ("one", none), ("two", none), ("none", none), ("whole", none), ("rows", none), ("total", none), ("k", none), ("fit", none), ("low", none), ("high", none), ("j", none), ("n", none)] _ _
  have hsz : 2000000 < sizeLine := by decide
  have hpw := pw10 hn
  have hr1 : 1 ≤ rs.length := by have := (List.getElem?_eq_some_iff.mp h0).1; omega
  have elen : (((List.range n).map fun v : Nat => PyData.int v).length : Int) = (n : Int) := by rw [List.length_map, List.length_range]
  walk_at "go"
  rw [elen]
  refine fsp_draw (by walk_at "rem") (by walk_at "rem") (by omega) (by omega) hp (fun turn p1 a1 a2 a3 a4 => ?_)
  walk_at "go"
  refine as_setLc (i := 7) [("k", 16)] [("pool", some (.ptr pa)), ("store", none), ("refs", some (.ptr rf)), ("tables", none), ("levels", none), ("many", none), ("turn", none), ("at", none), ("a", none), ("b", none), ("one", none), ("two", none), ("none", none), ("whole", none), ("rows", none), ("total", none), ("k", none), ("fit", none), ("low", none), ("high", none), ("j", none), ("n", none)] (fun j acc R => ∃ (p2 : Pl) (zs : List Nat), p2.ns = p.ns ∧ p2.at_ ≤ p2.ns.length ∧ acc = zs.map (fun v : Nat => A.i v) ∧ zs.length = j ∧ (∀ z ∈ zs, z < rs.length) ∧ j ≤ 3 ∧ R = DdR CS a S pa pb p2 rf tb n rs) hX (by decide) rfl rfl rfl (blkOk_cx (by decide +kernel)) (.keep (by decide) (bx_vis (by decide +kernel)) (.drop (.keep (by decide) (bx_vis (by decide +kernel)) (.drop (.drop (.drop (.drop (.drop (.drop (.drop (.drop (.drop (.drop (.drop (.drop (.drop (.drop (.drop (.drop (.drop (.drop (.drop .nil))))))))))))))))))))))
    (lc_st (i := 16) hX rfl (by decide) (by decide +kernel) (by decide +kernel) ?_)
  refine ai_range1 B.range ?_
  walk_at "go"
  refine ⟨_, rfl, by omega, by omega, ⟨_, Le.refl _, p1, [], a3, a4, rfl, rfl, (fun z hz => by cases hz), by omega, rfl⟩, fun _ _ _ _ _ => trivial, ?_, ?_⟩
  · rintro D j c acc R hj0 ⟨p2, zs, b1, b2, rfl, b4, b5, b6, rfl⟩
    obtain ⟨hj, rfl⟩ := rangeA_get hj0
    clear hj0
    refine ⟨by rw [List.length_map]; omega, _, (.there (.there (.there (.there (.there (.there (.there (.there (.there (.there (.there (.there (.there (.there (.there (.there (.here))))))))))))))))), ?_⟩
    rintro X' ⟨s', H', C', cl', fp', rfl⟩
    walk_at "go"
    refine fsp_draw (by walk_at "rem") (by walk_at "rem") (by rw [List.length_map]; omega) (by rw [List.length_map]; omega) b2 (fun z p3 c1 c2 c3 c4 => ?_)
    obtain ⟨z, rfl⟩ := Int.eq_ofNat_of_zero_le c1
    rw [List.length_map] at c2
    refine ⟨_, _, .there (.there .here), Le.refl _, p3, zs ++ [z], c3.trans b1, c4, by rw [List.map_append]; rfl, by rw [List.length_append, b4]; rfl, fun y hy => ?_, by omega, rfl⟩
    rcases List.mem_append.mp hy with h | h
    · exact b5 y h
    · obtain rfl := List.mem_singleton.mp h; omega
  rintro D acc R ⟨p2, zs, b1, b2, rfl, b4, b5, b6, rfl⟩
  rw [rangeA_len] at b4
  refine ⟨_, (.there (.there (.there (.there (.there (.there (.there (.here)))))))), ?_⟩
  show ASs _ _ _ _ _ _
  refine as_fz (.there (.there (.there (.there (.there (.there (.there (.here)))))))) (.there (.there (.there (.there (.there (.there (.there (.here)))))))) .here (AsD.nats zs) hX.nd ?_
  obtain ⟨z0, z1, z2, rfl⟩ : ∃ z0 z1 z2, zs = [z0, z1, z2] := by
    match zs, b4 with
    | [x, y, z], _ => exact ⟨x, y, z, rfl⟩
  have at0 : ∀ z, z < rs.length → ∃ r, r < S.N.length + 2 ∧ atI (rs.map fun v : Nat => A.i v) (z : Int) = some (A.i (r : Int)) ∧ atI (tabsA n S.N rs) (z : Int) = some (A.l (tabD n fun β => ev S.N β r)) := fun z hz => by
    obtain ⟨r, hr⟩ : ∃ r, rs[z]? = some r := ⟨_, List.getElem?_eq_getElem hz⟩
    exact ⟨r, hrs r (List.mem_of_getElem? hr), atI_nat (by rw [List.getElem?_map, hr]; rfl), atI_nat (by rw [List.getElem?_map, hr]; rfl)⟩
  obtain ⟨x, hx, x1, x2⟩ := at0 z0 (b5 z0 (by simp))
  obtain ⟨y, hy, y1, y2⟩ := at0 z1 (b5 z1 (by simp))
  obtain ⟨c, hc, c1, c2⟩ := at0 z2 (b5 z2 (by simp))
  have hlenT : ∀ F, ((tabD n F).length : Int) = ((2 ^ n : Nat) : Int) := fun F => by rw [tabD_len]
  walk_at "go"
  refine ia_lst (.there (.there .here)) x1 ?_
  walk_at "go"
  refine ia_lst (.there (.there .here)) y1 ?_
  walk_at "go"
  refine ia_lst (.there (.there (.there .here))) x2 ?_
  walk_at "go"
  refine ia_lst (.there (.there (.there .here))) y2 ?_
  walk_at "go"
  refine ⟨(show 1 ≤ sizeLine by decide), fun q1 => ?_⟩
  walk_at "go"
  rw [hlenT]
  have hpn : (List.length [A.b false]) * (((2 ^ n : Nat) : Int)).toNat ≤ sizeLine := by rw [Int.toNat_natCast]; show 1 * _ ≤ _; omega
  have hpn2 : (List.length [A.b true]) * (((2 ^ n : Nat) : Int)).toNat ≤ sizeLine := by rw [Int.toNat_natCast]; show 1 * _ ≤ _; omega
  refine ba_rep .here (Int.natCast_nonneg _) (rng10 hn).2 hpn fun q2 => ?_
  rw [tab_rep]
  refine ⟨q2, _, _, _, rfl, .here, AsD.map _, ?_⟩
  walk_at "go"
  refine ⟨(show 1 ≤ sizeLine by decide), fun q3 => ?_⟩
  walk_at "go"
  rw [hlenT]
  refine ba_rep .here (Int.natCast_nonneg _) (rng10 hn).2 hpn2 fun q4 => ?_
  rw [tab_rep]
  refine ⟨q4, _, _, _, rfl, .here, AsD.map _, ?_⟩
  refine ag_name hX (by walk_at "mem") (by walk_at "up") ?_
  show ASs _ _ _ _ _ _
  refine as_weak (R' := DdR CS a S pa pb p2 rf tb n rs) (Le.trans Le.drop Le.drop) (Fg.refl _) ?_
  have room : S.room n := ⟨by omega, by omega, by omega⟩
  have fin : ∀ (p' : Pl) (T : Sto) (v : Nat) (F : (Nat → Bool) → Bool), p'.ns = p.ns → p'.at_ ≤ p'.ns.length → DdO n S T v F → ∃ R2, Le (Sto.rs CS a T ++ [(pa, p'.res pb), (pb, p'.lst), (rf, .lst (rs.map fun v : Nat => A.i v)), (tb, .lst (tabsA n S.N rs))]) R2 ∧ post (.t [.int v, .list (tabD n F)]) R2 := fun p' T v F h1 h2 h3 => by
    refine ⟨_, ?_, kont p' T v F h1 h2 h3⟩
    rw [← show tabsA n T.N rs = tabsA n S.N rs from tabs_grow hS h3.ok h3.grow hrs]
    exact Le.cons (.there (.there (.there (.there (.there (.there .here)))))) (Le.cons (.there (.there (.there (.there (.there (.there .here)))))) (Le.cons (.there (.there (.there (.there (.there (.there .here)))))) (Le.cons (.there (.there (.there (.there (.there (.there .here)))))) (Le.refl _))))
  walk_at "go"
  refine ⟨fun h => ?_, fun h => ?_⟩
  · walk_at "go"
    refine ⟨Sto.rs CS a S, _, by walk_at "spl", a, S, n, x, rfl, rfl, hS, room, ⟨hx, by show 0 < _; omega, by show 1 < _; omega⟩, fun T v hC => ?_⟩
    walk_at "go"
    refine ⟨[], _, .nil, n, _, _, _, rfl, rfl, hn, fun q => ⟨q, _, _, _, rfl, .here, AsD.map _, ?_⟩⟩
    walk_at "go"
    refine ⟨le_two, fin p2 T v _ b1 b2 (DdO.ofCh hR hC fun β => ?_)⟩
    show (if ev S.N β x = true then false else true) = if ev S.N β x then ev S.N β 0 else ev S.N β 1
    rw [ev_one _ _ (show 0 < 2 by decide), ev_one _ _ (show 1 < 2 by decide)]; rfl
  walk_at "go"
  refine ⟨fun h => ?_, fun h => ?_⟩
  · walk_at "go"
    refine ⟨Sto.rs CS a S, _, by walk_at "spl", a, S, n, x, y, rfl, rfl, hS, room, ⟨hx, hy, by show 0 < _; omega⟩, fun T v hC => ?_⟩
    walk_at "go"
    refine ⟨[], _, .nil, n, _, _, _, rfl, rfl, hn, fun q => ⟨q, _, _, _, rfl, .here, AsD.map _, ?_⟩⟩
    walk_at "go"
    refine ⟨le_two, fin p2 T v _ b1 b2 (DdO.ofCh hR hC fun β => ?_)⟩
    show (if ev S.N β x then ev S.N β y else false) = if ev S.N β x then ev S.N β y else ev S.N β 0
    rw [ev_one _ _ (show 0 < 2 by decide)]; rfl
  walk_at "go"
  refine ⟨fun h => ?_, fun h => ?_⟩
  · walk_at "go"
    refine ⟨Sto.rs CS a S, _, by walk_at "spl", a, S, n, x, y, rfl, rfl, hS, room, ⟨hx, by show 1 < _; omega, hy⟩, fun T v hC => ?_⟩
    walk_at "go"
    refine ⟨[], _, .nil, n, _, _, _, rfl, rfl, hn, fun q => ⟨q, _, _, _, rfl, .here, AsD.map _, ?_⟩⟩
    walk_at "go"
    refine ⟨le_two, fin p2 T v _ b1 b2 (DdO.ofCh hR hC fun β => ?_)⟩
    show (if ev S.N β x then true else ev S.N β y) = if ev S.N β x then ev S.N β 1 else ev S.N β y
    rw [ev_one _ _ (show 1 < 2 by decide)]; rfl
  walk_at "go"
  refine ⟨fun h => ?_, fun h => ?_⟩
  · walk_at "go"
    refine ⟨Sto.rs CS a S, _, by walk_at "spl", a, S, n, x, y, rfl, rfl, hS, room, ⟨hy, by show 0 < _; omega, hx⟩, fun T v hC => ?_⟩
    walk_at "go"
    refine ⟨[], _, .nil, n, _, _, _, rfl, rfl, hn, fun q => ⟨q, _, _, _, rfl, .here, AsD.map _, ?_⟩⟩
    walk_at "go"
    refine ⟨le_two, fin p2 T v _ b1 b2 (DdO.ofCh hR hC fun β => ?_)⟩
    show (if ev S.N β y then false else ev S.N β x) = if ev S.N β y then ev S.N β 0 else ev S.N β x
    rw [ev_one _ _ (show 0 < 2 by decide)]; rfl
  walk_at "go"
  refine ⟨fun h => ?_, fun h => ?_⟩
  · walk_at "go"
    refine as_setLc (i := 14) [("k", 16)] [("pool", some (.ptr pa)), ("store", none), ("refs", some (.ptr rf)), ("tables", none), ("levels", none), ("many", none), ("turn", none), ("at", none), ("a", none), ("b", none), ("one", none), ("two", none), ("none", none), ("whole", none), ("rows", none), ("total", none), ("k", none), ("fit", none), ("low", none), ("high", none), ("j", none), ("n", none)] (fun j acc R => ∃ (p2 : Pl) (zs : List Nat), p2.ns = p.ns ∧ p2.at_ ≤ p2.ns.length ∧ acc = zs.map (fun v : Nat => A.i v) ∧ zs.length = j ∧ (∀ z ∈ zs, z < rs.length) ∧ j ≤ 3 ∧ R = DdR CS a S pa pb p2 rf tb n rs) hX (by decide) rfl rfl rfl (blkOk_cx (by decide +kernel)) (.keep (by decide) (bx_vis (by decide +kernel)) (.drop (.keep (by decide) (bx_vis (by decide +kernel)) (.drop (.drop (.drop (.drop (.drop (.drop (.drop (.drop (.drop (.drop (.drop (.drop (.drop (.drop (.drop (.drop (.drop (.drop (.drop .nil))))))))))))))))))))))
      (lc_st (i := 16) hX rfl (by decide) (by decide +kernel) (by decide +kernel) ?_)
    refine ai_range1 B.range ?_
    walk_at "go"
    refine fsp_draw (by walk_at "rem") (by walk_at "rem") (by omega) (by omega) b2 (fun m p4 d1 d2 d3 d4 => ?_)
    obtain ⟨m, rfl⟩ := Int.eq_ofNat_of_zero_le d1
    walk_at "go"
    refine ⟨_, rfl, by omega, by omega, ⟨_, Le.refl _, p4, [], d3.trans b1, d4, rfl, rfl, (fun z hz => by cases hz), by omega, rfl⟩, fun _ _ _ _ _ => trivial, ?_, ?_⟩
    · rintro D j c acc R hj0 ⟨p2, zs, b1, b2, rfl, b4, b5, b6, rfl⟩
      obtain ⟨hj, rfl⟩ := rangeA_get hj0
      clear hj0
      refine ⟨by rw [List.length_map]; omega, _, (.there (.there (.there (.there (.there (.there (.there (.there (.there (.there (.there (.there (.there (.there (.there (.there (.here))))))))))))))))), ?_⟩
      rintro X' ⟨s', H', C', cl', fp', rfl⟩
      walk_at "go"
      refine fsp_draw (by walk_at "rem") (by walk_at "rem") (by rw [List.length_map]; omega) (by rw [List.length_map]; omega) b2 (fun z p3 c1 c2 c3 c4 => ?_)
      obtain ⟨z, rfl⟩ := Int.eq_ofNat_of_zero_le c1
      rw [List.length_map] at c2
      refine ⟨_, _, .there (.there .here), Le.refl _, p3, zs ++ [z], c3.trans b1, c4, by rw [List.map_append]; rfl, by rw [List.length_append, b4]; rfl, fun y hy => ?_, by omega, rfl⟩
      rcases List.mem_append.mp hy with h | h
      · exact b5 y h
      · obtain rfl := List.mem_singleton.mp h; omega
    rintro D acc R ⟨p5, ws, e1, e2, rfl, e4, e5, e6, rfl⟩
    refine ⟨_, (.there (.there (.there (.there (.there (.there (.there (.there (.there (.there (.there (.there (.there (.there (.here))))))))))))))), ?_⟩
    show ASs _ _ _ _ _ _
    refine as_fz (.there (.there (.there (.there (.there (.there (.there (.there (.there (.there (.there (.there (.there (.there (.here))))))))))))))) (.there (.there (.there (.there (.there (.there (.there (.there (.there (.there (.there (.there (.there (.there (.here))))))))))))))) .here (AsD.nats ws) hX.nd ?_
    rw [rangeA_len, Int.toNat_natCast] at e4
    rw [rangeA_len, Int.toNat_natCast] at e6
    have hwr : ∀ z ∈ ws, rs.getD z 0 < S.N.length + 2 ∧ atI (rs.map fun v : Nat => A.i v) (z : Int) = some (A.i ((rs.getD z 0 : Nat) : Int)) ∧ atI (tabsA n S.N rs) (z : Int) = some (A.l (tabD n fun β => ev S.N β (rs.getD z 0))) := fun z hz => by
      have hzl := e5 z hz
      have hg : rs[z]? = some (rs.getD z 0) := by rw [List.getD_eq_getElem?_getD, List.getElem?_eq_getElem hzl]; rfl
      exact ⟨hrs _ (List.mem_of_getElem? hg), atI_nat (by rw [List.getElem?_map, hg]; rfl), atI_nat (by rw [List.getElem?_map, hg]; rfl)⟩
    walk_at "go"
    intro q6
    refine ag_name hX (by walk_at "mem") (by walk_at "up") ?_
    show ASs _ _ _ _ _ _
    refine as_fz (.there (.there (.there (.there (.there (.there (.there (.there (.there (.there (.there (.there (.there (.there (.there (.here)))))))))))))))) (.there (.there (.there (.there (.there (.there (.there (.there (.there (.there (.there (.there (.there (.there (.there (.here)))))))))))))))) .here (AsD.map _) hX.nd ?_
    walk_at "go"
    refine as_for (fun i δ R' => ∃ v1 : Option AL.A, δ = ([("pool", some (.ptr pa)), ("store", some (.ptr a.s)), ("refs", some (.ptr rf)), ("tables", some (.ptr tb)), ("levels", some (.l ((List.range n).map fun v : Nat => .int v))), ("many", some (.i n)), ("turn", some (.i turn)), ("at", some (.l ([z0, z1, z2].map fun v : Nat => .int v))), ("a", some (.i x)), ("b", some (.i y)), ("one", some (.l (tabD n fun β => ev S.N β x))), ("two", some (.l (tabD n fun β => ev S.N β y))), ("none", some (.l (tabD n fun _ => false))), ("whole", some (.l (tabD n fun _ => true))), ("rows", some (.l (ws.map fun v : Nat => .int v))), ("total", some (.l (tabD n fun β => ((ws.take i).map fun z => rs.getD z 0).any fun r => ev S.N β r))), ("k", v1), ("fit", none), ("low", none), ("high", none), ("j", none), ("n", none)] : SL) ∧ R' = DdR CS a S pa pb p5 rf tb n rs) hX ?_
    refine ai_l ?_
    walk_at "go"
    refine ⟨_, rfl, Wk.self ⟨_, rfl, rfl⟩, fun _ _ _ _ => trivial, ?_, ?_⟩
    · rintro i c δ R hc ⟨v1, rfl, rfl⟩
      rw [List.map_map, List.getElem?_map] at hc
      obtain ⟨z, hz, rfl⟩ := Option.map_eq_some_iff.mp hc
      obtain ⟨g1, g2, g3⟩ := hwr z (List.mem_of_getElem? hz)
      show AG _ _ _ (.i z) _ _ _
      walk_at "go"
      refine ia_lst (.there (.there (.there .here))) g3 ?_
      walk_at "go"
      refine ⟨[], _, .nil, n, _, _, _, rfl, rfl, hn, fun q => ⟨q, _, _, _, rfl, .here, AsD.map _, ?_⟩⟩
      have etk : (fun β => if (((ws.take i).map fun z => rs.getD z 0).any fun r => ev S.N β r) = true then true else ev S.N β (rs.getD z 0)) = fun β => ((ws.take (i + 1)).map fun z => rs.getD z 0).any fun r => ev S.N β r := by
        funext β
        rw [List.take_succ, hz, List.map_append, List.any_append]
        cases ((ws.take i).map fun z => rs.getD z 0).any fun r => ev S.N β r <;> simp
      rw [etk]
      walk_at "go"
      exact Wk.self ⟨_, rfl, rfl⟩
    · rintro δ R ⟨v1, rfl, rfl⟩
      rw [List.length_map, List.length_map, List.take_length]
      walk_at "go"
      refine ae_fz (ae_lc [("k", 16)] [("pool", none), ("store", none), ("refs", some (.ptr rf)), ("tables", none), ("levels", none), ("many", none), ("turn", none), ("at", none), ("a", none), ("b", none), ("one", none), ("two", none), ("none", none), ("whole", none), ("rows", none), ("total", none), ("k", none), ("fit", none), ("low", none), ("high", none), ("j", none), ("n", none)] _ hX (blkOk_cx (by decide +kernel)) (.drop (.drop (.keep (by decide) (bx_vis (by decide +kernel)) (.drop (.drop (.drop (.drop (.drop (.drop (.drop (.drop (.drop (.drop (.drop (.drop (.drop (.drop (.drop (.drop (.drop (.drop (.drop .nil)))))))))))))))))))))) (lc_fm (i := 16) (rfG rs) ((ws.map fun v : Nat => PyData.int v).map A.d) (DdR CS a S pa pb p5 rf tb n rs) hX rfl (by decide) (by decide +kernel) (by decide +kernel) ?_))
      refine ai_l ?_
      walk_at "go"
      refine ⟨_, rfl, rfl, Le.refl _, by rw [List.length_map, List.length_map]; omega, fun _ _ => trivial, fun D acc c hc => ?_, fun D => ?_⟩
      · rw [List.map_map] at hc
        obtain ⟨z, hz, rfl⟩ := List.mem_map.mp hc
        obtain ⟨g1, g2, g3⟩ := hwr z hz
        refine ⟨_, (.there (.there (.there (.there (.there (.there (.there (.there (.there (.there (.there (.there (.there (.there (.there (.there (.here))))))))))))))))), fun X' hx' => ⟨fun _ => ?_, fun z => by cases z⟩⟩
        rintro X' ⟨s', H', C', cl', fp', rfl⟩
        show AE _ _ _ [("pool", none), ("store", none), ("refs", some (.ptr rf)), ("tables", none), ("levels", none), ("many", none), ("turn", none), ("at", none), ("a", none), ("b", none), ("one", none), ("two", none), ("none", none), ("whole", none), ("rows", none), ("total", none), ("k", some (.i z)), ("fit", none), ("low", none), ("high", none), ("j", none), ("n", none)] _ _
        walk_at "go"
        refine ia_lst (.there (.there (.there .here))) g2 ?_
        exact ⟨rfl, _, .here, Le.refl _⟩
      rw [rfG_eq]
      refine ⟨D, _, _, _, rfl, .here, AsD.nats _, ?_⟩
      walk_at "go"
      have hwl : (ws.length + 1) * 2 ^ n ≤ 4 * 1024 := Nat.mul_le_mul (by omega) hpw
      refine ⟨Sto.rs CS a S, _, by walk_at "spl", a, S, n, ws.map (fun z => rs.getD z 0), rfl, rfl, hS, fun r hr => ?_, by rw [List.length_map]; omega, by rw [List.length_map]; omega, by omega, fun T v hE => ?_⟩
      · obtain ⟨z, hz, rfl⟩ := List.mem_map.mp hr
        exact (hwr z hz).1
      walk_at "go"
      have hg := hE.grow
      rw [List.length_map] at hg
      have hw2 : ws.length * 2 ^ n ≤ 3 * 2 ^ n := Nat.mul_le_mul_right _ (by omega)
      exact ⟨le_two, fin p5 T v _ e1 e2 ⟨hE.ok, hE.red hR, hg.mono (by omega), hE.lt, fun i _ => (hE.ev _).symm⟩⟩
  refine as_nil ?_
  show ASs _ _ _ _ _ _
  refine as_cut (fun δ R => δ = ([("pool", some (.ptr pa)), ("store", some (.ptr a.s)), ("refs", some (.ptr rf)), ("tables", some (.ptr tb)), ("levels", some (.l ((List.range n).map fun v : Nat => .int v))), ("many", some (.i n)), ("turn", some (.i turn)), ("at", some (.l ([z0, z1, z2].map fun v : Nat => .int v))), ("a", some (.i x)), ("b", some (.i y)), ("one", some (.l (tabD n fun β => ev S.N β x))), ("two", some (.l (tabD n fun β => ev S.N β y))), ("none", some (.l (tabD n fun _ => false))), ("whole", some (.l (tabD n fun _ => true))), ("rows", none), ("total", none), ("k", none), ("fit", none), ("low", none), ("high", none), ("j", none), ("n", none)] : SL) ∧ R = DdR CS a S pa pb p2 rf tb n rs) ?_ ?_
  · walk_at "go"
    refine ⟨fun h => ?_, fun h => ⟨fun z => absurd z (by decide), fun _ => ?_⟩⟩
    · walk_at "go"
      refine ⟨fun h5 => ?_, fun h5 => ?_⟩
      · have h5 : 0 < n := by have := of_decide_eq_true h5; omega
        walk_at "go"
        refine fsp_draw (by walk_at "rem") (by walk_at "rem") (by omega) (by omega) b2 (fun k p4 d1 d2 d3 d4 => ?_)
        obtain ⟨k, rfl⟩ := Int.eq_ofNat_of_zero_le d1
        have hk : k < n := by omega
        have hlv : atI ((List.range n).map fun v : Nat => PyData.int v) (k : Int) = some (.int (k : Int)) := atI_nat (by rw [List.getElem?_map, List.getElem?_range hk]; rfl)
        walk_at "go"
        refine ia_l hlv ?_
        walk_at "go"
        refine ⟨Sto.rs CS a S, _, by walk_at "spl", a, S, n, k, rfl, rfl, hS, ⟨by omega, by omega⟩, hk, fun T v q1 q2 q3 q4 q5 => ?_⟩
        walk_at "go"
        refine ⟨[], _, .nil, n, k, rfl, rfl, hk, hn, fun q => ⟨q, _, _, _, rfl, .here, AsD.map _, ?_⟩⟩
        walk_at "go"
        exact ⟨le_two, fin p4 T v _ (d3.trans b1) d4 ⟨q1, q5 hR, q2.mono (by omega), q3, fun i _ => (q4 _).symm⟩⟩
      · walk_at "go"
        exact Wk.self ⟨rfl, rfl⟩
    · walk_at "go"
      exact Wk.self ⟨rfl, rfl⟩
  rintro δ R ⟨rfl, rfl⟩
  refine as_cut (fun δ R => δ = ([("pool", some (.ptr pa)), ("store", some (.ptr a.s)), ("refs", some (.ptr rf)), ("tables", some (.ptr tb)), ("levels", some (.l ((List.range n).map fun v : Nat => .int v))), ("many", some (.i n)), ("turn", some (.i turn)), ("at", some (.l ([z0, z1, z2].map fun v : Nat => .int v))), ("a", some (.i x)), ("b", some (.i y)), ("one", some (.l (tabD n fun β => ev S.N β x))), ("two", some (.l (tabD n fun β => ev S.N β y))), ("none", some (.l (tabD n fun _ => false))), ("whole", some (.l (tabD n fun _ => true))), ("rows", none), ("total", none), ("k", none), ("fit", none), ("low", none), ("high", none), ("j", none), ("n", none)] : SL) ∧ R = DdR CS a S pa pb p2 rf tb n rs) ?_ ?_
  · walk_at "go"
    refine ⟨fun h => ?_, fun h => ⟨fun z => absurd z (by decide), fun _ => ?_⟩⟩
    · walk_at "go"
      refine ⟨fun h5 => ?_, fun h5 => ?_⟩
      · have h5 : 0 < n := by have := of_decide_eq_true h5; omega
        walk_at "go"
        refine fsp_draw (by walk_at "rem") (by walk_at "rem") (by omega) (by omega) b2 (fun k p4 d1 d2 d3 d4 => ?_)
        obtain ⟨k, rfl⟩ := Int.eq_ofNat_of_zero_le d1
        have hk : k < n := by omega
        have hlv : atI ((List.range n).map fun v : Nat => PyData.int v) (k : Int) = some (.int (k : Int)) := atI_nat (by rw [List.getElem?_map, List.getElem?_range hk]; rfl)
        walk_at "go"
        refine as_setLc (i := 17) [("j", 20)] [("pool", none), ("store", none), ("refs", none), ("tables", some (.ptr tb)), ("levels", none), ("many", some (.i n)), ("turn", none), ("at", none), ("a", none), ("b", none), ("one", none), ("two", none), ("none", none), ("whole", none), ("rows", none), ("total", none), ("k", some (.i k)), ("fit", none), ("low", none), ("high", none), ("j", none), ("n", none)] _ hX (by decide) rfl rfl rfl (blkOk_cx (by decide +kernel)) (.drop (.drop (.drop (.keep (by decide) (bx_vis (by decide +kernel)) (.drop (.keep (by decide) (bx_vis (by decide +kernel)) (.drop (.drop (.drop (.drop (.drop (.drop (.drop (.drop (.drop (.drop (.keep (by decide) (bx_vis (by decide +kernel)) (.drop (.drop (.drop (.drop (.drop .nil))))))))))))))))))))))
          (lc_fm (i := 20) (fitG n k S.N rs) (rangeA 0 rs.length) (DdR CS a S pa pb p4 rf tb n rs) hX rfl (by decide) (by decide +kernel) (by decide +kernel) ?_)
        refine ai_range1 B.range ?_
        walk_at "go"
        refine ⟨_, rfl, by omega, by rw [List.length_map]; omega, by rw [List.length_map]; rfl, Le.refl _, by rw [rangeA_len]; omega, fun _ _ => trivial, fun D acc cc hc => ?_, fun D => ?_⟩
        · obtain ⟨j, hj0⟩ := List.mem_iff_getElem?.mp hc
          obtain ⟨hj, rfl⟩ := rangeA_get hj0
          clear hj0
          rw [Int.zero_add]
          have hg : rs[j]? = some (rs.getD j 0) := by rw [List.getD_eq_getElem?_getD, List.getElem?_eq_getElem hj]; rfl
          have g3 : atI (tabsA n S.N rs) (j : Int) = some (A.l (tabD n fun β => ev S.N β (rs.getD j 0))) := atI_nat (by rw [List.getElem?_map, hg]; rfl)
          refine ⟨_, (.there (.there (.there (.there (.there (.there (.there (.there (.there (.there (.there (.there (.there (.there (.there (.there (.there (.there (.there (.there (.here))))))))))))))))))))), fun X' hx' => ?_⟩
          have hXB := xd_blk hX hx'
          obtain ⟨s', H', C', cl', fp', rfl⟩ := hx'
          show AT _ _ _ [("pool", none), ("store", none), ("refs", none), ("tables", some (.ptr tb)), ("levels", none), ("many", some (.i n)), ("turn", none), ("at", none), ("a", none), ("b", none), ("one", none), ("two", none), ("none", none), ("whole", none), ("rows", none), ("total", none), ("k", some (.i k)), ("fit", none), ("low", none), ("high", none), ("j", some (.i j)), ("n", none)] _ _
          walk_at "go"
          refine ae_lc [("n", 21)] [("pool", none), ("store", none), ("refs", none), ("tables", none), ("levels", none), ("many", none), ("turn", none), ("at", none), ("a", none), ("b", none), ("one", none), ("two", none), ("none", none), ("whole", none), ("rows", none), ("total", none), ("k", some (.i k)), ("fit", none), ("low", none), ("high", none), ("j", none), ("n", none)] _ hXB (blkOk_cx2 (by decide +kernel)) (.drop (.drop (.drop (.drop (.drop (.drop (.drop (.drop (.drop (.drop (.drop (.drop (.drop (.drop (.drop (.drop (.keep (by decide) (bx_vis (by decide +kernel)) (.drop (.drop (.drop (.drop (.drop .nil))))))))))))))))))))))
            (lc_fm (i := 21) (leG k) (((needsF n fun β => ev S.N β (rs.getD j 0)).map fun v : Nat => PyData.int v).map A.d) ((D, .lst acc) :: DdR CS a S pa pb p4 rf tb n rs) hXB rfl (by decide) (by decide +kernel) (by decide +kernel) ?_)
          refine ai_l (ae_fz ?_)
          walk_at "go"
          refine ia_lst (.there (.there (.there (.there .here)))) g3 ?_
          walk_at "go"
          refine ⟨[], _, .nil, n, _, rfl, rfl, hn, fun q => ⟨q, _, _, _, rfl, .here, AsD.nats _, ?_⟩⟩
          have hnl : (needsF n fun β => ev S.N β (rs.getD j 0)).length ≤ n := by
            have := List.length_filter_le (dpd n fun β => ev S.N β (rs.getD j 0)) (List.range n)
            rw [List.length_range] at this; exact this
          refine ⟨_, rfl, rfl, Le.refl _, by rw [List.length_map, List.length_map]; omega, fun _ _ => trivial, fun D2 acc2 c2 hc2 => ?_, fun D2 => ?_⟩
          · rw [List.map_map] at hc2
            obtain ⟨v, hv, rfl⟩ := List.mem_map.mp hc2
            refine ⟨_, (.there (.there (.there (.there (.there (.there (.there (.there (.there (.there (.there (.there (.there (.there (.there (.there (.there (.there (.there (.there (.there (.here)))))))))))))))))))))), fun X2 hx2 => ?_⟩
            obtain ⟨s3, H3, C3, cl3, fp3, rfl⟩ := hx2
            show AT _ _ _ [("pool", none), ("store", none), ("refs", none), ("tables", none), ("levels", none), ("many", none), ("turn", none), ("at", none), ("a", none), ("b", none), ("one", none), ("two", none), ("none", none), ("whole", none), ("rows", none), ("total", none), ("k", some (.i k)), ("fit", none), ("low", none), ("high", none), ("j", none), ("n", some (.i v))] _ _
            walk_at "go"
            refine ⟨fun hle => ?_, fun hle => ?_⟩
            · have hle := of_decide_eq_true hle
              rintro X4 ⟨s4, H4, C4, cl4, fp4, rfl⟩
              walk_at "go"
              exact ⟨by show (if (v : Int) ≤ (k : Int) then _ else _) = _; rw [if_pos hle]; rfl, _, .here, Le.refl _⟩
            · have hle := of_decide_eq_false hle
              exact ⟨by show (if (v : Int) ≤ (k : Int) then _ else _) = _; rw [if_neg hle], _, .here, Le.refl _⟩
          rw [leG_eq]
          walk_at "go"
          rw [List.length_map]
          refine ⟨fun hz => ?_, fun hz => ?_⟩
          · rintro X4 ⟨s4, H4, C4, cl4, fp4, rfl⟩
            walk_at "go"
            exact ⟨by show (if fitB n k S.N rs ((j : Int)).toNat = true then _ else _) = _; rw [Int.toNat_natCast]; exact if_pos hz, _, .there .here, Le.drop⟩
          · exact ⟨by show (if fitB n k S.N rs ((j : Int)).toNat = true then _ else _) = _; rw [Int.toNat_natCast]; have hz' : fitB n k S.N rs j = false := hz; rw [hz']; rfl, _, .there .here, Le.drop⟩
        rw [fitG_eq]
        refine ⟨_, (.there (.there (.there (.there (.there (.there (.there (.there (.there (.there (.there (.there (.there (.there (.there (.there (.there (.here)))))))))))))))))), ?_⟩
        show ASs _ _ _ _ _ _
        refine as_fz (.there (.there (.there (.there (.there (.there (.there (.there (.there (.there (.there (.there (.there (.there (.there (.there (.there (.here)))))))))))))))))) (.there (.there (.there (.there (.there (.there (.there (.there (.there (.there (.there (.there (.there (.there (.there (.there (.there (.here)))))))))))))))))) .here (AsD.nats _) hX.nd ?_
        have hfm : ∀ z, z ∈ (List.range rs.length).filter (fitB n k S.N rs) → z < rs.length ∧ fitB n k S.N rs z = true := fun z hz => ⟨List.mem_range.mp (List.mem_filter.mp hz).1, (List.mem_filter.mp hz).2⟩
        have hf0 : 0 ∈ (List.range rs.length).filter (fitB n k S.N rs) := List.mem_filter.mpr ⟨List.mem_range.mpr (by omega), fit_zero n k S.N h0⟩
        have hfl : ((List.range rs.length).filter (fitB n k S.N rs)).length ≤ rs.length := by
          have := List.length_filter_le (fitB n k S.N rs) (List.range rs.length)
          rw [List.length_range] at this; exact this
        generalize (List.range rs.length).filter (fitB n k S.N rs) = fs at *
        have hfp : 0 < fs.length := List.length_pos_of_mem hf0
        have fat : ∀ z, z < fs.length → ∃ j, j < rs.length ∧ fitB n k S.N rs j = true ∧ atI (fs.map fun v : Nat => PyData.int v) (z : Int) = some (.int (j : Int)) := fun z hz => by
          obtain ⟨h1, h2⟩ := hfm _ (List.getElem_mem hz)
          exact ⟨fs[z], h1, h2, atI_nat (by rw [List.getElem?_map, List.getElem?_eq_getElem hz]; rfl)⟩
        walk_at "go"
        refine fsp_draw (by walk_at "rem") (by walk_at "rem") (by rw [List.length_map]; omega) (by rw [List.length_map]; omega) d4 (fun z5 p5 f1 f2 f3 f4 => ?_)
        obtain ⟨z5, rfl⟩ := Int.eq_ofNat_of_zero_le f1
        rw [List.length_map] at f2
        obtain ⟨jl, l1, l2, l3⟩ := fat z5 (by omega)
        refine ia_l l3 ?_
        walk_at "go"
        refine fsp_draw (by walk_at "rem") (by walk_at "rem") (by rw [List.length_map]; omega) (by rw [List.length_map]; omega) f4 (fun z6 p6 g1 g2 g3 g4 => ?_)
        obtain ⟨z6, rfl⟩ := Int.eq_ofNat_of_zero_le g1
        rw [List.length_map] at g2
        obtain ⟨jh, m1, m2, m3⟩ := fat z6 (by omega)
        refine ia_l m3 ?_
        have atr : ∀ j, j < rs.length → rs.getD j 0 < S.N.length + 2 ∧ atI (rs.map fun v : Nat => A.i v) (j : Int) = some (A.i ((rs.getD j 0 : Nat) : Int)) ∧ atI (tabsA n S.N rs) (j : Int) = some (A.l (tabD n fun β => ev S.N β (rs.getD j 0))) := fun j hj => by
          have hg : rs[j]? = some (rs.getD j 0) := by rw [List.getD_eq_getElem?_getD, List.getElem?_eq_getElem hj]; rfl
          exact ⟨hrs _ (List.mem_of_getElem? hg), atI_nat (by rw [List.getElem?_map, hg]; rfl), atI_nat (by rw [List.getElem?_map, hg]; rfl)⟩
        obtain ⟨u1, u2, u3⟩ := atr jl l1
        obtain ⟨w1, w2, w3⟩ := atr jh m1
        have gl := fit_geL hS hR hk u1 l2
        have gh := fit_geL hS hR hk w1 m2
        have nd := nodeN_ok (x := (k, rs.getD jl 0, rs.getD jh 0)) hS.nodes u1 w1 gl gh hk
        obtain ⟨sk1, sk2⟩ := sok_node hS nd
        walk_at "go"
        refine ia_l hlv ?_
        walk_at "go"
        refine ia_lst (.there (.there .here)) u2 ?_
        walk_at "go"
        refine ia_lst (.there (.there .here)) w2 ?_
        walk_at "go"
        refine ⟨Sto.rs CS a S, _, by walk_at "spl", a, S, k, rs.getD jl 0, rs.getD jh 0, rfl, rfl, ⟨by omega, by omega⟩, ?_⟩
        walk_at "go"
        refine ⟨[], _, .nil, n, k, rfl, rfl, hk, hn, fun q => ⟨q, _, _, _, rfl, .here, AsD.map _, ?_⟩⟩
        walk_at "go"
        refine ia_lst (.there (.there (.there (.there (.there (.there (.there (.there (.there .here))))))))) w3 ?_
        walk_at "go"
        refine ia_lst (.there (.there (.there (.there (.there (.there (.there (.there (.there .here))))))))) u3 ?_
        walk_at "go"
        refine ⟨[], _, .nil, n, _, _, _, rfl, rfl, hn, fun q => ⟨q, _, _, _, rfl, .here, AsD.map _, ?_⟩⟩
        walk_at "go"
        refine ⟨le_two, fin p6 ⟨(nodeN S.N (k, rs.getD jl 0, rs.getD jh 0)).1, S.C⟩ _ _ (g3.trans (f3.trans (d3.trans b1))) g4 ⟨sk1, nodeN_red hR _, sk2.mono (by omega), nd.lt, fun i _ => ?_⟩⟩
        rw [nd.ev]
        show (if bitF n i k = true then ev S.N (bitF n i) (rs.getD jh 0) else ev S.N (bitF n i) (rs.getD jl 0)) = ev (nodeN S.N (k, rs.getD jl 0, rs.getD jh 0)).1 (bitF n i) (if bitF n i k = true then rs.getD jh 0 else rs.getD jl 0)
        by_cases zz : bitF n i k = true
        · rw [if_pos zz, if_pos zz, sk2.ev hS sk1 _ w1]
        · rw [if_neg zz, if_neg zz, sk2.ev hS sk1 _ u1]
      · walk_at "go"
        exact Wk.self ⟨rfl, rfl⟩
    · walk_at "go"
      exact Wk.self ⟨rfl, rfl⟩
  rintro δ R ⟨rfl, rfl⟩
  walk_at "go"
  refine ia_lst (.there (.there .here)) c1 ?_
  walk_at "go"
  obtain ⟨nn, T, v, r1, r2, r3, r4, r5⟩ := choose_ex hS (k := (c, x, y)) ⟨hc, hx, hy⟩ room.1 room.2.1 room.2.2
  have hC := chR_of hS ⟨hc, hx, hy⟩ r3 r4 r5 (run_red r1)
  refine ⟨Sto.rs CS a S, _, by walk_at "spl", a, S, T, nn, c, x, y, rfl, rfl, r1, ?_⟩
  rw [r2, show onA (some v) = A.i (v : Int) from rfl]
  walk_at "go"
  refine ia_lst (.there (.there (.there (.there (.there (.there (.there (.there (.there .here))))))))) c2 ?_
  walk_at "go"
  refine ⟨[], _, .nil, n, _, _, _, rfl, rfl, hn, fun q => ⟨q, _, _, _, rfl, .here, AsD.map _, ?_⟩⟩
  walk_at "go"
  exact ⟨le_two, fin p2 T v _ b1 b2 (DdO.ofCh hR hC fun β => rfl)⟩
end

end
section
local macro_rules | `(tactic| walk_at "flk") => `(tactic| first | exact stF_lv _ | exact stF_lo _ | exact stF_hi _ | exact stF_nd _ | exact stF_ch _)
local macro_rules | `(tactic| walk_at "len") => `(tactic| first | omega | (simp only [Sto.lvs, Sto.los, Sto.his, List.length_map, ndD, ndG_len, chD, List.length_append, List.length_cons, List.length_nil]; omega))
local macro_rules | `(tactic| walk_at "ixl") => `(tactic| first | rfl | (refine lvs_at ?_ ?_ <;> omega) | (refine los_at ?_ ?_ <;> omega) | (refine his_at ?_ ?_ <;> omega))

/-! ### list(range(n)) -/
section
variable {X : Cx}
theorem cr_range1 : CallR X (.type "range") (fun vs H Q => ∃ j, vs = [V.int j] ∧ ∀ p, H p = none → Q (.ref p) (upd H p (.rng 0 j))) := by
  intro pins s σ H vs us Q I r h
  obtain ⟨j, rfl, q⟩ := h
  obtain ⟨u1, rfl, rj⟩ := vals1 r
  obtain ⟨t, rfl⟩ := rj
  refine PySem.call_range_1 ⟨.ref s.heap.objs.size, upd H s.heap.objs.size (.rng 0 j), I.laid (t' := s.toks + 1 + 1) (fun b o e => Heap.get?_push_of_some _ e) (Nat.le_refl _) ?_, rfl, q _ (I.hok.fresh (Nat.le_refl _))⟩
  exact ⟨s.toks, t, s.toks + 1, Heap.get?_push_size _ rfl⟩
theorem vals_rng : ∀ (n a : Nat) (vs : List Value), vs.length = n → (∀ (j : Nat) (v : Value), vs[j]? = some v → ∃ t, v = .int ((0 : Int) + ((a + j : Nat) : Int) * 1) t) → Vals ((List.range' a n).map fun v : Nat => V.int v) vs
  | 0, a, vs, e, _ => by cases vs with
    | nil => exact .nil
    | cons _ _ => cases e
  | n + 1, a, vs, e, h => by
    cases vs with
    | nil => cases e
    | cons v r =>
      obtain ⟨t, ht⟩ := h 0 v rfl
      rw [List.range'_succ, List.map_cons]
      refine .cons ⟨t, by rw [ht]; congr 1; omega⟩ (vals_rng n (a + 1) r (by simpa using e) fun j v hj => ?_)
      obtain ⟨t', h'⟩ := h (j + 1) v hj
      exact ⟨t', by rw [h']; congr 1; omega⟩
theorem cr_listRng (calm : X.calm = true) : CallR X (.type "list") (fun xs H Q => ∃ (p : Addr) (n : Nat), xs = [.ref p] ∧ H p = some (.rng 0 n) ∧ n ≤ 2 ^ 24 ∧ ∀ l, H l = none → Q (.ref l) (upd H l (.lst ((List.range n).map fun v : Nat => V.int v)))) := by
  intro pins s σ H xs us Q I r h
  obtain ⟨p, n, rfl, hp, hn, q⟩ := h
  obtain ⟨u, rfl, rx⟩ := vals1 r
  cases rx
  obtain ⟨t, u, v, hr⟩ := I.hok _ _ hp
  have hsz : 2 ^ 24 ≤ sizeLine := by decide
  refine PySem.call_list_range (n := n) (I.ok.hd calm) hr (small_one (by decide) (by decide) (by omega) (by omega)) (by rw [rangeSize_one]; split <;> omega) hn fun h' tk acc c hk hD hI => ?_
  refine ⟨.ref s.heap.objs.size, _, I.laid (t' := tk) hk (Nat.le_refl _) ?_, rfl, q _ (I.hok.fresh (Nat.le_refl _))⟩
  refine ⟨?_, acc.toList, c, ?_, ?_⟩
  · rw [List.length_map, List.length_range]; omega
  · rw [List.range_eq_range']
    exact vals_rng n 0 acc.toList (by rw [Array.length_toList]; exact hI.1) fun j v hj => by
      obtain ⟨t, e⟩ := hI.2 j v (by rw [← hj, Array.getElem?_toList])
      exact ⟨t, by rw [e]; congr 1; omega⟩
  · rw [Array.toArray_toList]; exact hD
end
section
variable {L : List Str} {X : Cx} {ex : EX} {δ : SL} {R : RL} {e : Expr} {p1 p2 p3 p4 : Pos} {post : A → RL → Prop}
theorem pav_rng {K : PySem.W.Frag} {P : Hp} (n : Nat) : PAv K P ((List.range n).map fun v : Nat => V.int v) ((List.range n).map fun v : Nat => A.i v) := by
  generalize List.range n = l
  induction l with
  | nil => exact .nil
  | cons v r ih => exact .cons aInt ih
/-- list(range(e)) -/
theorem ae_listRange (hc : X.calm = true) (hm : X.mg "list" = none) (hm2 : X.mg "range" = none) (h : AEs X ex [e] δ R fun as R1 => ∃ n : Nat, as = [.i n] ∧ n ≤ 2 ^ 24 ∧ ∀ q, post (.ptr q) ((q, .lst ((List.range n).map fun v : Nat => A.i v)) :: R1)) (hg : Gl X "list" := by rfl) (hg2 : Gl X "range" := by rfl)
    (he : starEach [e] X.env = [(false, eval e X.env)] := by rfl) (he2 : starEach [.Call (.Name "range" p2) [e] [] p3] X.env = [(false, eval (.Call (.Name "range" p2) [e] [] p3) X.env)] := by rfl) :
    AE X ex (.Call (.Name "list" p1) [.Call (.Name "range" p2) [e] [] p3] [] p4) δ R post := fun σ P H hS hW hT Q q => by
  refine wE_of (pe_callTy (T := "list") callR_ex hg hm (by decide +kernel) (pa_cons (pe_callTy (T := "range") callR_ex hg2 hm2 (by decide +kernel) pa_w (by decide) (by decide) he rfl) pa_nil he2) (by decide) (by decide) he2 rfl) ?_
  refine h σ P H hS hW hT _ fun vs xs R1 P1 H1 h1 h2 h3 h4 => ?_
  obtain ⟨n, rfl, hn, k⟩ := h1
  obtain ⟨y, rfl, h5⟩ := pav1 h2
  cases h5
  refine ⟨_, cr_range1, n, rfl, fun p hp => ⟨_, cr_listRng hc, p, n, rfl, upd_same, hn, fun l hl => ?_⟩⟩
  exact q _ _ _ _ _ (k l) rfl ((h3.pure hp).new hl ⟨_, upd_same, pav_rng n⟩) ((h4.trans (stp_pure h3 hp)).trans (stp_new hl))
end

/-! ### exceptions: raised, caught; lists unpacked -/
/-- a class over ValueError without own __init__ -/
structure ExcC (K : PySem.W.Frag) (mg : Str → Option Value) (x : Str) (C : Addr) : Prop where
  g : mg x = some (.ref C)
  x : PySem.W.excIn K C [.type "ValueError", .type "Exception", .type "BaseException", .type "object"] "ValueError.__new__" = true
  k : PySem.W.keepIn K (.ref C) = true
  b : PySem.W.subIn K (.ref C) (.type "BaseException") = some true
  t : PySem.W.typeIn K (.ref C) = some (.type "type")
  e : PySem.W.exmOne K (.ref C) (.ref C) = some true
theorem exm_me {K : PySem.W.Frag} {C : Addr} (hb : PySem.W.subIn K (.ref C) (.type "BaseException") = some true) (hi : PySem.W.isClsIn K C = true) (ht : PySem.W.typeIn K (.ref C) = some (.type "type")) (hs : PySem.W.subIn K (.ref C) (.ref C) = some true) : PySem.W.exmOne K (.ref C) (.ref C) = some true := by
  have hj : (PySem.W.clsIn K C).isSome = true := hi
  unfold PySem.W.exmOne PySem.W.kitCls
  simp [hb, ht, hs, hj]
theorem Sl.as {X Y : Cx} {P : Hp} {σ : L2.St} {δ : SL} (h : Sl X P σ δ) (eN : Y.N = X.N) (eK : Y.K = X.K) (eV : ∀ x, VisX X x → VisX Y x) : Sl Y P σ δ := by
  obtain ⟨h1, h2, h3⟩ := h
  exact ⟨by rw [eN]; exact h1, h2, fun i x a q => ⟨eV x (h3 i x a q).1, by rw [eK]; exact (h3 i x a q).2⟩⟩
section
variable {L : List Str} {X : Cx} {ex : EX} {δ δ' : SL} {R R' : RL} {D : AEnds} {x m : Str} {C : Addr} {body suite : List Stmt} {b₀ : Stmt} {p p2 p3 pos np pos' : Pos} {j : Nat}
/-- a statement's ways on come together in M -/
theorem as_cutS {st : Stmt} {sts : List Stmt} (M : SL → RL → Prop) (h : AS X ex st δ R ⟨Wk M, D.rt, D.bk, D.ct⟩) (k : ∀ δ R, M δ R → ASs X ex sts δ R D) : AS X ex st δ R { D with nx := fun δ' R' => ASs X ex sts δ' R' D } := fun σ P H hS hW hT => by
  refine wS_mono (h σ P H hS hW hT) ?_ (fun _ _ q => q) (fun _ _ q => q) (fun _ _ q => q)
  rintro σ' H' q
  obtain ⟨δ', R', P', h1, h2, h3, h4⟩ := liftS_wk q
  exact ⟨δ', R', P', k _ _ h1, h2, h3, h4⟩
/-- raise X('m') -/
theorem as_raise (c : ExcC X.K X.mg x C) (hc : X.calm = true) (h : ex (.ref C) none δ R) (hg : Gl X x := by rfl) (hdb : (x == ("__debug__" : Str)) = false := by decide) :
    AS X ex (.Raise (some (.Call (.Name x p) [.Constant (.str m) j p2] [] p3)) none pos) δ R D := fun σ P H hS hW hT => by
  refine wS_of (ps_raise hc hT (pmk_own PySem.F.excBase_ValueError c.x c.g c.k (raises_own c.b c.t) hg hdb)) ?_
  exact ⟨δ, R, P, h, hS, hW, Stp.refl⟩
/-- try: body, except X: suite -/
theorem as_try (c : ExcC X.K X.mg x C) (hX : XD X L) (hU : XU X) {S : Option Addr → SL → RL → Prop}
    (hb : ∀ (pn : List (Addr × Obj)) (xe : Value → Shared → Prop), XD (X.tr pn xe) L → XU (X.tr pn xe) → ASs (X.tr pn xe) (fun cls d δ R => ∃ b, PySem.W.exmOne X.K cls (.ref C) = some b ∧ (b = true → S d δ R) ∧ (b = false → ex cls d δ R)) body δ R D)
    (hs : ∀ (a : Addr) (pn : List (Addr × Obj)) d δ' R', S d δ' R' → ASs (X.suite a pn) EX0 (b₀ :: suite) δ' R' D)
    (hst : X.stack = X.env :: X.outer := by rfl) (hf : X.env.frame = some X.env.locals := by rfl) (hg : Gl X x := by rfl) (hdb : (x == ("__debug__" : Str)) = false := by decide) :
    AS X ex (.Try body [.ExceptHandler (some (.Name x np)) none (b₀ :: suite) pos'] [] [] pos) δ R D := fun σ P H hS hW hT => by
  refine wS_of (ps_try_only (c := .ref C) (tb := fun W D σ H => ∀ (pn : List (Addr × Obj)) (xe : Value → Shared → Prop), Takes (X.tr pn xe) W → PassesOwn (model X.prog X.w) X.A X.env xe → wSs (X.tr pn xe) body D σ H)
    (ts := fun a cls d D σ H => ∀ (oe : Obj) (pn : List (Addr × Obj)), wSs (X.suite a ((a, oe) :: pn)) (b₀ :: suite) D σ H) hst hf ⟨hg, hdb, .inl c.g⟩ hT
    (fun W pn xe tk ps => ⟨fun pins s σ H D I h => h pn xe tk ps pins s I⟩) (fun a oe cls d pn _ _ => ⟨fun pins s σ H D I h => h oe pn pins s I⟩)) ?_
  intro pn xe tk ps
  have hX' : XD (X.tr pn xe) L := ⟨hX.nd, hX.loc, hX.calm, ps⟩
  have hz := hb pn xe hX' hU σ P H (hS.as rfl rfl fun _ z => ⟨z.vis, z.db, z.cd⟩) hW (tk.imp ?_)
  · exact wSs_mono hz (fun _ _ ⟨δ, R, P, a, b, c⟩ => ⟨δ, R, P, a, b.as rfl rfl fun _ z => ⟨z.vis, z.db, z.cd⟩, c⟩) (fun _ _ z => z) (fun _ _ ⟨δ, R, P, a, b, c⟩ => ⟨δ, R, P, a, b.as rfl rfl fun _ z => ⟨z.vis, z.db, z.cd⟩, c⟩) (fun _ _ ⟨δ, R, P, a, b, c⟩ => ⟨δ, R, P, a, b.as rfl rfl fun _ z => ⟨z.vis, z.db, z.cd⟩, c⟩)
  rintro cls d σ' H' ⟨δ', R', P', ⟨b, hb1, hb2, hb3⟩, s1, w1, t1⟩
  refine ⟨b, hb1, fun z a _ oe pn' => ?_, fun z => ⟨δ', R', P', hb3 z, s1.as rfl rfl fun _ z => ⟨z.vis, z.db, z.cd⟩, w1, t1⟩⟩
  have h := hs a ((a, oe) :: pn') d δ' R' (hb2 z) σ' P' H' (s1.as rfl rfl fun _ z => ⟨z.vis, z.db, z.cd⟩) w1 takes0'
  exact wSs_mono h (fun _ _ ⟨δ, R, P, a, b, c⟩ => liftS_step (X := X) t1 _ _ ⟨δ, R, P, a, b.as rfl rfl fun _ z => ⟨z.vis, z.db, z.cd⟩, c⟩) (fun _ _ z => liftV_step (X := X) t1 _ _ z) (fun _ _ ⟨δ, R, P, a, b, c⟩ => liftS_step (X := X) t1 _ _ ⟨δ, R, P, a, b.as rfl rfl fun _ z => ⟨z.vis, z.db, z.cd⟩, c⟩) (fun _ _ ⟨δ, R, P, a, b, c⟩ => liftS_step (X := X) t1 _ _ ⟨δ, R, P, a, b.as rfl rfl fun _ z => ⟨z.vis, z.db, z.cd⟩, c⟩)
where takes0' {a : Addr} {pn : List (Addr × Obj)} {R : RL} {P H : Hp} : TX (X.suite a pn) EX0 R P H := takes0.imp fun _ _ _ _ ⟨_, _, _, z, _⟩ => z.elim
/-- a, b = a list of that length -/
theorem ag_lst {tgs : List Expr} {xs : List A} {U : Res → RL} {q : SL → RL → Prop} {a : Addr} (hX : XD X L) (hs : Sel R a (.lst xs) U) (h : AGs X ex tgs xs δ R q)
    (hn : (assignEach tgs X.env).length = xs.length := by rfl) (hst : (assignEach tgs X.env).findIdx? (·.1) = none := by rfl) : AG X ex (.Tuple tgs j pos) (.ptr a) δ R q := fun σ P H v hS hW hT hv => by
  cases (show v = .ref a from hv)
  obtain ⟨vs, h1, h2⟩ := hW.get hs
  refine wG_of (pg_lst hX.calm pgs_w hn hst) ⟨a, vs, rfl, SqL.of h1, h2.length, ?_⟩
  exact h σ P H _ hS hW hT h2
end

/-! ### a count is the mass of the assignments it holds in -/
theorem setT_put (β : Nat → Bool) (n : Nat) : setT β n = putB β n true := by
  funext l
  unfold setT putB
  by_cases h : l = n
  · rw [if_pos h, decide_eq_true h]; rfl
  · rw [if_neg h, decide_eq_false h]; rfl
theorem Ex_put {p : Nat → Rat} {n : Nat} {G : (Nat → Bool) → Bool} (h : ∀ β v, G (putB β n v) = G β) : Ex p (n + 1) G = Ex p n G := by
  rw [Ex_succ, Ex_congr (F := fun β => G (setT β n)) (G := G) fun c _ => by show G (setT _ n) = _; rw [setT_put, h]]
  exact rat_split _ _
theorem Ex_mix (p : Nat → Rat) : ∀ (n l : Nat) (T G H : (Nat → Bool) → Bool), l < n → (∀ β v, G (putB β l v) = G β) → (∀ β v, H (putB β l v) = H β) → (∀ β, T β = if β l = true then H β else G β) → Ex p n T = (1 - p l) * Ex p n G + p l * Ex p n H
  | 0, _, _, _, _, h, _, _, _ => absurd h (Nat.not_lt_zero _)
  | n + 1, l, T, G, H, h, hG, hH, hT => by
    by_cases e : l = n
    · subst e
      rw [Ex_put hG, Ex_put hH, Ex_succ, Ex_congr (F := T) (G := G) fun c _ => by rw [hT, bitF_self]; rfl, Ex_congr (F := fun β => T (setT β l)) (G := H) fun c _ => by
        show T (setT _ l) = _
        rw [hT, setT_put, hH, if_pos (by unfold putB; exact if_pos rfl)]]
      grind
    · have hl : l < n := by omega
      have sw : ∀ β v, putB (setT β n) l v = setT (putB β l v) n := fun β v => by
        funext j
        unfold setT putB
        by_cases q : j = l
        · rw [if_pos q, if_pos q, decide_eq_false (by omega)]; rfl
        · rw [if_neg q, if_neg q]
      have i1 := Ex_mix p n l T G H hl hG hH hT
      have i2 := Ex_mix p n l (fun β => T (setT β n)) (fun β => G (setT β n)) (fun β => H (setT β n)) hl (fun β v => by show G (setT (putB β l v) n) = _; rw [← sw, hG]) (fun β v => by show H (setT (putB β l v) n) = _; rw [← sw, hH]) (fun β => by
        show T (setT β n) = _
        rw [hT]
        have : setT β n l = β l := by unfold setT; rw [decide_eq_false (by omega)]; rfl
        rw [this])
      rw [Ex_succ, Ex_succ, Ex_succ, i1, i2]
      grind
theorem cnt_ex {M : Nat} {N : List K3} (hN : NOk M N) (p : Nat → Rat) : ∀ r, r < N.length + 2 → cnt N p r = Ex p M fun β => ev N β r := by
  intro r
  induction r using Nat.strongRecOn with
  | _ r ih =>
    intro hr
    by_cases h2 : r < 2
    · have : r = 0 ∨ r = 1 := by omega
      rcases this with rfl | rfl
      · rw [cnt_zero, show (fun β => ev N β 0) = fun _ => false from funext fun β => ev_one _ _ (by decide), Ex_none]
      · rw [cnt_top, show (fun β => ev N β 1) = fun _ => true from funext fun β => ev_one _ _ (by decide), Ex_all]
    · have h2 : 2 ≤ r := by omega
      have ok := hN r h2 hr
      have l1 := ok.lo
      have l2 := ok.hi
      have ind : ∀ x, x < N.length + 2 → geL N (lvN N r + 1) x → ∀ β v, ev N (putB β (lvN N r) v) x = ev N β x := fun x hx hg β v => ev_agree hN x hx _ hg fun j hj => by unfold putB; exact if_neg (by omega)
      rw [cnt_step hN p h2 hr, ih _ l1 (by omega), ih _ l2 (by omega), ← Ex_mix p M (lvN N r) (fun β => ev N β r) (fun β => ev N β (loN N r)) (fun β => ev N β (hiN N r)) ok.lv (ind _ (by omega) ok.llo) (ind _ (by omega) ok.lhi) fun β => by
        show ev N β r = _
        rw [ev_step hN β h2 hr]
        split <;> rfl]

/-! ### products and parities of many coins -/
def allP (p : Nat → Rat) : Nat → Nat → Rat
  | 0, _ => 1
  | n + 1, l => p l * allP p n (l + 1)
def oddP (p : Nat → Rat) : Nat → Nat → Rat × Rat
  | 0, _ => (0, 1)
  | n + 1, l => ((1 - p l) * (oddP p n (l + 1)).1 + p l * (oddP p n (l + 1)).2, (1 - p l) * (oddP p n (l + 1)).2 + p l * (oddP p n (l + 1)).1)
theorem allP_end (p : Nat → Rat) : ∀ n l, allP p (n + 1) l = allP p n l * p (l + n)
  | 0, l => by show p l * 1 = 1 * p (l + 0); grind
  | n + 1, l => by
    show p l * allP p (n + 1) (l + 1) = p l * allP p n (l + 1) * _
    rw [allP_end p n (l + 1), show l + 1 + n = l + (n + 1) by omega]
    grind
theorem oddP_end (p : Nat → Rat) : ∀ n l, oddP p (n + 1) l = ((oddP p n l).1 * (1 - p (l + n)) + (oddP p n l).2 * p (l + n), (oddP p n l).2 * (1 - p (l + n)) + (oddP p n l).1 * p (l + n))
  | 0, l => by
    show (_, _) = (_, _)
    congr 1
    · show (1 - p l) * 0 + p l * 1 = 0 * (1 - p (l + 0)) + 1 * p (l + 0); grind
    · show (1 - p l) * 1 + p l * 0 = 1 * (1 - p (l + 0)) + 0 * p (l + 0); grind
  | n + 1, l => by
    have ih := oddP_end p n (l + 1)
    rw [show l + 1 + n = l + (n + 1) by omega] at ih
    show (_, _) = (_, _)
    rw [ih]
    congr 1
    · show _ = ((1 - p l) * (oddP p n (l + 1)).1 + p l * (oddP p n (l + 1)).2) * _ + ((1 - p l) * (oddP p n (l + 1)).2 + p l * (oddP p n (l + 1)).1) * _
      grind
    · show _ = ((1 - p l) * (oddP p n (l + 1)).2 + p l * (oddP p n (l + 1)).1) * _ + ((1 - p l) * (oddP p n (l + 1)).1 + p l * (oddP p n (l + 1)).2) * _
      grind
/-- the four references after k coins -/
structure RowsI (M k : Nat) (N : List K3) (p : Nat → Rat) (r0 r1 r2 r3 : Nat) : Prop where
  ok : NOk M N
  len : N.length ≤ 4 * k
  l0 : r0 < N.length + 2
  l1 : r1 < N.length + 2
  l2 : r2 < N.length + 2
  l3 : r3 < N.length + 2
  g0 : geL N (M - k) r0
  g1 : geL N (M - k) r1
  g2 : geL N (M - k) r2
  g3 : geL N (M - k) r3
  c0 : cnt N p r0 = allP p k (M - k)
  c1 : cnt N p r1 = 1 - allP (fun l => 1 - p l) k (M - k)
  c2 : cnt N p r2 = (oddP p k (M - k)).1
  c3 : cnt N p r3 = (oddP p k (M - k)).2
theorem RowsI.init (M : Nat) (p : Nat → Rat) : RowsI M 0 [] p 1 0 0 1 := by
  refine ⟨fun a h1 h2 => ?_, Nat.zero_le _, by decide, by decide, by decide, by decide, fun h => absurd h (by decide), fun h => absurd h (by decide), fun h => absurd h (by decide), fun h => absurd h (by decide), cnt_top _ _, ?_, cnt_zero _ _, cnt_top _ _⟩
  · have : a < 0 + 2 := h2; omega
  · rw [cnt_zero]; show (0 : Rat) = 1 - 1; grind
/-- a reference and what it keeps when a node is made -/
structure Kept (M m : Nat) (N : List K3) (p : Nat → Rat) (r : Nat) (v : Rat) : Prop where
  lt : r < N.length + 2
  ge : geL N m r
  ct : cnt N p r = v
structure Made (M m : Nat) (N N' : List K3) (p : Nat → Rat) (v : Nat) (x : Rat) : Prop where
  ok : NOk M N'
  len : N'.length ≤ N.length + 1
  this : Kept M m N' p v x
  old : ∀ {j r y}, Kept M j N p r y → Kept M j N' p r y
theorem made_node {M m : Nat} {N : List K3} {p : Nat → Rat} {l r : Nat} {x y : Rat} (hN : NOk M N) (hm : m < M) (hl : Kept M (m + 1) N p l x) (hr : Kept M (m + 1) N p r y) : Made M m N (nodeN N (m, l, r)).1 p (nodeN N (m, l, r)).2 ((1 - p m) * x + p m * y) := by
  have nd := nodeN_ok (x := (m, l, r)) hN hl.lt hr.lt hl.ge hr.ge hm
  have cn := cnt_node (x := (m, l, r)) hN hl.lt hr.lt nd p
  obtain ⟨ls, e, hls⟩ := nd.app
  refine ⟨nd.ok, by rw [e, List.length_append]; omega, ⟨nd.lt, nd.ge m (Nat.le_refl _) (geL_mono hl.ge (Nat.le_succ m)), ?_⟩, fun {j r' y'} h => ?_⟩
  · rw [cn]
    show (1 - p m) * cnt N p l + p m * cnt N p r = _
    rw [hl.ct, hr.ct]
  · have hok := nd.ok
    have h1 := h.lt
    rw [e] at hok ⊢
    exact ⟨by rw [List.length_append]; omega, (geL_app h1).mpr h.ge, by rw [cnt_app hN hok p _ h1]; exact h.ct⟩
/-- the law's own sums, carried forward -/
structure FwdI (cs : List Rat) (i : Nat) (b e n o v : Int) : Prop where
  bp : b = (dpr cs i 0 : Nat)
  e1 : (e : Rat) = allP (pAt cs) i 0 * (b : Rat)
  n1 : (n : Rat) = allP (fun l => 1 - pAt cs l) i 0 * (b : Rat)
  o1 : (o : Rat) = (oddP (pAt cs) i 0).1 * (b : Rat)
  v1 : (v : Rat) = (oddP (pAt cs) i 0).2 * (b : Rat)
theorem dpr_end (cs : List Rat) : ∀ n l, dpr cs (n + 1) l = dpr cs n l * (pAt cs (l + n)).den
  | 0, l => by show (pAt cs l).den * 1 = 1 * (pAt cs (l + 0)).den; rw [Nat.mul_one, Nat.one_mul]; rfl
  | n + 1, l => by
    show (pAt cs l).den * dpr cs (n + 1) (l + 1) = (pAt cs l).den * dpr cs n (l + 1) * _
    rw [dpr_end cs n (l + 1), show l + 1 + n = l + (n + 1) by omega, Nat.mul_assoc]
theorem FwdI.init (cs : List Rat) : FwdI cs 0 1 1 1 0 1 := by
  refine ⟨rfl, ?_, ?_, ?_, ?_⟩
  · show ((1 : Int) : Rat) = 1 * ((1 : Int) : Rat); grind
  · show ((1 : Int) : Rat) = 1 * ((1 : Int) : Rat); grind
  · show ((0 : Int) : Rat) = 0 * ((1 : Int) : Rat); grind
  · show ((1 : Int) : Rat) = 1 * ((1 : Int) : Rat); grind
theorem FwdI.step {cs : List Rat} {i : Nat} {b e n o v : Int} (h : FwdI cs i b e n o v) (c : Rat) (hc : c = pAt cs i) :
    FwdI cs (i + 1) (b * (c.den : Int)) (e * c.num) (n * ((c.den : Int) - c.num)) (o * ((c.den : Int) - c.num) + v * c.num) (v * ((c.den : Int) - c.num) + o * c.num) := by
  obtain ⟨h1, h2, h3, h4, h5⟩ := h
  have hd := rat_mul_den c
  have hn : ((((c.den : Int) - c.num : Int)) : Rat) = (1 - c) * ((c.den : Int) : Rat) := by rw [Rat.intCast_sub, ← hd]; grind
  refine ⟨?_, ?_, ?_, ?_, ?_⟩
  · rw [dpr_end, h1, hc, Nat.zero_add]; exact (Int.natCast_mul _ _).symm
  · rw [allP_end, Nat.zero_add, ← hc, Rat.intCast_mul, Rat.intCast_mul, h2, ← hd]; grind
  · rw [allP_end, Nat.zero_add]
    show _ = _ * (1 - pAt cs i) * _
    rw [← hc, Rat.intCast_mul, Rat.intCast_mul, h3, hn]; grind
  · rw [oddP_end, Nat.zero_add, ← hc, Rat.intCast_add, Rat.intCast_mul, Rat.intCast_mul, Rat.intCast_mul, h4, h5, hn, ← hd]; grind
  · rw [oddP_end, Nat.zero_add, ← hc, Rat.intCast_add, Rat.intCast_mul, Rat.intCast_mul, Rat.intCast_mul, h4, h5, hn, ← hd]; grind
theorem divInt_of {x : Rat} {t b : Int} (hb : 0 < b) (h : (t : Rat) = x * (b : Rat)) : Rat.divInt t b = x := by
  have hb' : (b : Rat) ≠ 0 := fun z => by have := Rat.intCast_inj.mp (z.trans (show (0 : Rat) = ((0 : Int) : Rat) from rfl)); omega
  rw [Rat.divInt_eq_div, h, Rat.div_def, Rat.mul_assoc, Rat.mul_inv_cancel _ hb', Rat.mul_one]
theorem RowsI.kept {M k : Nat} {N : List K3} {p : Nat → Rat} {r0 r1 r2 r3 : Nat} (h : RowsI M k N p r0 r1 r2 r3) : Kept M (M - k) N p r0 (allP p k (M - k)) ∧ Kept M (M - k) N p r1 (1 - allP (fun l => 1 - p l) k (M - k)) ∧ Kept M (M - k) N p r2 (oddP p k (M - k)).1 ∧ Kept M (M - k) N p r3 (oddP p k (M - k)).2 :=
  ⟨⟨h.l0, h.g0, h.c0⟩, ⟨h.l1, h.g1, h.c1⟩, ⟨h.l2, h.g2, h.c2⟩, ⟨h.l3, h.g3, h.c3⟩⟩
theorem kept_zero {M m : Nat} {N : List K3} {p : Nat → Rat} : Kept M m N p 0 0 := ⟨by omega, fun h => absurd h (by decide), cnt_zero _ _⟩
theorem kept_one {M m : Nat} {N : List K3} {p : Nat → Rat} : Kept M m N p 1 1 := ⟨by omega, fun h => absurd h (by decide), cnt_top _ _⟩
theorem RowsI.next {M k : Nat} {N N1 N2 N3 N4 : List K3} {p : Nat → Rat} {r0 r1 r2 r3 v1 v2 v3 v4 : Nat} (h : RowsI M k N p r0 r1 r2 r3) (hk : k < M)
    (a1 : Made M (M - (k + 1)) N N1 p v1 ((1 - p (M - (k + 1))) * 0 + p (M - (k + 1)) * allP p k (M - k)))
    (a2 : Made M (M - (k + 1)) N1 N2 p v2 ((1 - p (M - (k + 1))) * (1 - allP (fun l => 1 - p l) k (M - k)) + p (M - (k + 1)) * 1))
    (a3 : Made M (M - (k + 1)) N2 N3 p v3 ((1 - p (M - (k + 1))) * (oddP p k (M - k)).1 + p (M - (k + 1)) * (oddP p k (M - k)).2))
    (a4 : Made M (M - (k + 1)) N3 N4 p v4 ((1 - p (M - (k + 1))) * (oddP p k (M - k)).2 + p (M - (k + 1)) * (oddP p k (M - k)).1)) : RowsI M (k + 1) N4 p v1 v2 v3 v4 := by
  have e : M - (k + 1) + 1 = M - k := by omega
  have t1 := a4.old (a3.old (a2.old a1.this))
  have t2 := a4.old (a3.old a2.this)
  have t3 := a4.old a3.this
  have t4 := a4.this
  have q1 := a1.len
  have q2 := a2.len
  have q3 := a3.len
  have q4 := a4.len
  have q := h.len
  refine ⟨a4.ok, by omega, t1.lt, t2.lt, t3.lt, t4.lt, t1.ge, t2.ge, t3.ge, t4.ge, ?_, ?_, ?_, ?_⟩
  · rw [t1.ct]
    show _ = p (M - (k + 1)) * allP p k (M - (k + 1) + 1)
    rw [e]; grind
  · rw [t2.ct]
    show _ = 1 - (1 - p (M - (k + 1))) * allP (fun l => 1 - p l) k (M - (k + 1) + 1)
    rw [e]; grind
  · rw [t3.ct]
    show _ = (1 - p (M - (k + 1))) * (oddP p k (M - (k + 1) + 1)).1 + p (M - (k + 1)) * (oddP p k (M - (k + 1) + 1)).2
    rw [e]
  · rw [t4.ct]
    show _ = (1 - p (M - (k + 1))) * (oddP p k (M - (k + 1) + 1)).2 + p (M - (k + 1)) * (oddP p k (M - (k + 1) + 1)).1
    rw [e]
/-- an item of a written table -/
theorem tab_at {ns : List Int} {z : Int} (h0 : 0 ≤ z) (h1 : z < ns.length) : ∃ m, m ∈ ns ∧ atI (ns.map PyData.int) z = some (.int m) := by
  obtain ⟨j, rfl⟩ := Int.eq_ofNat_of_zero_le h0
  have hj : j < ns.length := by omega
  exact ⟨ns[j], List.getElem_mem hj, atI_nat (by rw [List.getElem?_map, List.getElem?_eq_getElem hj]; rfl)⟩
/-- what a comprehension over a range makes -/
def rgG (h : Nat → Rat) (x : A) : Option A := match x with
  | .d (.int k) => some (.d (dR (h k.toNat)))
  | _ => none
theorem rgG_eq (h : Nat → Rat) (M : Nat) : (rangeA 0 M).filterMap (rgG h) = ((List.range M).map h).map fun c => A.d (dR c) := by
  unfold rangeA
  generalize List.range M = l
  induction l with
  | nil => rfl
  | cons v r ih =>
    rw [List.map_cons, List.map_cons, List.map_cons, List.filterMap_cons_some (f := rgG h) (b := A.d (dR (h v))) ?_, ih]
    show some (A.d (dR (h ((0 : Int) + (v : Int)).toNat))) = _
    rw [Int.zero_add, Int.toNat_natCast]
theorem pAt_mem {cs : List Rat} {l : Nat} (h : l < cs.length) : pAt cs l ∈ cs := by
  unfold pAt
  rw [List.getD_eq_getElem?_getD, List.getElem?_eq_getElem h]
  exact List.getElem_mem h
theorem pw6 : 6 ^ 1200 < 2 ^ 4000 := by
  have h : (6 : Nat) ^ 3 < 2 ^ 8 := by decide
  have e1 : (6 : Nat) ^ 1200 = (6 ^ 3) ^ 400 := by rw [← Nat.pow_mul]
  have e2 : (2 : Nat) ^ 3200 = (2 ^ 8) ^ 400 := by rw [← Nat.pow_mul]
  rw [e1]
  refine Nat.lt_of_lt_of_le (Nat.pow_lt_pow_left h (by decide)) ?_
  rw [← e2]
  exact Nat.pow_le_pow_right (by decide) (by decide)
theorem ch6_small {c : Rat} (h : Ch6 c) : c.num.natAbs < 2 ^ 4000 ∧ ((c.den : Int)).natAbs < 2 ^ 4000 ∧ ((c.den : Int) - c.num).natAbs < 2 ^ 4000 := by
  obtain ⟨h0, h1, h2⟩ := h
  have n0 := Rat.num_nonneg.mpr h0
  have n1 : c.num ≤ (c.den : Int) := by
    have := (Rat.le_iff c 1).mp h1
    have e1 : (1 : Rat).den = 1 := rfl
    have e2 : (1 : Rat).num = 1 := rfl
    rw [e1, e2] at this
    omega
  have big : 7 < 2 ^ 4000 := Nat.lt_of_lt_of_le (show 7 < 2 ^ 3 by decide) (Nat.pow_le_pow_right (by decide) (by decide))
  refine ⟨Nat.lt_trans (show c.num.natAbs < 7 by omega) big, Nat.lt_trans (show ((c.den : Int)).natAbs < 7 by omega) big, Nat.lt_trans (show ((c.den : Int) - c.num).natAbs < 7 by omega) big⟩
theorem allP01 {p : Nat → Rat} (h : ∀ l, 0 ≤ p l ∧ p l ≤ 1) : ∀ n l, 0 ≤ allP p n l ∧ allP p n l ≤ 1
  | 0, _ => ⟨(by decide : (0 : Rat) ≤ 1), Rat.le_refl⟩
  | n + 1, l => mul01 (h l) (allP01 h n (l + 1))
theorem oddP01 {p : Nat → Rat} (h : ∀ l, 0 ≤ p l ∧ p l ≤ 1) : ∀ n l, (0 ≤ (oddP p n l).1 ∧ (oddP p n l).1 ≤ 1) ∧ (0 ≤ (oddP p n l).2 ∧ (oddP p n l).2 ≤ 1)
  | 0, _ => ⟨⟨Rat.le_refl, (by decide : (0 : Rat) ≤ 1)⟩, ⟨(by decide : (0 : Rat) ≤ 1), Rat.le_refl⟩⟩
  | n + 1, l => ⟨mix01 (h l) (oddP01 h n (l + 1)).1 (oddP01 h n (l + 1)).2, mix01 (h l) (oddP01 h n (l + 1)).2 (oddP01 h n (l + 1)).1⟩
theorem le_of_frac {t b : Int} {x : Rat} (h : (t : Rat) = x * (b : Rat)) (h1 : 0 ≤ x ∧ x ≤ 1) (hb : 0 ≤ b) : 0 ≤ t ∧ t ≤ b := by
  have hb' : (0 : Rat) ≤ (b : Rat) := Rat.intCast_nonneg.mpr hb
  refine ⟨Rat.intCast_nonneg.mp (by rw [h]; exact Rat.mul_nonneg h1.1 hb'), Rat.intCast_le_intCast.mp ?_⟩
  rw [h]
  have := Rat.mul_le_mul_of_nonneg_right h1.2 hb'
  rwa [Rat.one_mul] at this
theorem FwdI.pos {cs : List Rat} {i : Nat} {b e n o v : Int} (h : FwdI cs i b e n o v) : 0 < b := by rw [h.bp]; exact Int.ofNat_lt.mpr (dpr_pos cs i 0)
theorem FwdI.rg {cs : List Rat} {i : Nat} {b e n o v : Int} (h : FwdI cs i b e n o v) (hc : C01 cs) : (0 ≤ e ∧ e ≤ b) ∧ (0 ≤ n ∧ n ≤ b) ∧ (0 ≤ o ∧ o ≤ b) ∧ (0 ≤ v ∧ v ≤ b) := by
  have hb := Int.le_of_lt h.pos
  exact ⟨le_of_frac h.e1 (allP01 hc.bd i 0) hb, le_of_frac h.n1 (allP01 (fun l => one_sub01 (hc.bd l)) i 0) hb, le_of_frac h.o1 (oddP01 hc.bd i 0).1 hb, le_of_frac h.v1 (oddP01 hc.bd i 0).2 hb⟩
theorem FwdI.bd {cs : List Rat} {i : Nat} {b e n o v : Int} (h : FwdI cs i b e n o v) (hc : C01 cs) (hD : dpr cs i 0 < 2 ^ 4000) : b.natAbs < 2 ^ 4000 ∧ e.natAbs < 2 ^ 4000 ∧ n.natAbs < 2 ^ 4000 ∧ o.natAbs < 2 ^ 4000 ∧ v.natAbs < 2 ^ 4000 := by
  have hb := h.pos
  obtain ⟨r1, r2, r3, r4⟩ := h.rg hc
  have e1 : b.natAbs = dpr cs i 0 := by rw [h.bp]; exact Int.natAbs_natCast _
  rw [← e1] at hD
  generalize (2 : Nat) ^ 4000 = Z at hD ⊢
  refine ⟨hD, ?_, ?_, ?_, ?_⟩ <;> omega

/-! ### what the law has made -/
local macro_rules | `(tactic| walk_at "ae") => `(tactic| first
  | ((with_reducible show AE _ _ (Expr.BinOp (Expr.List _ _) Operator.Mult _ _) _ _ _); refine ae_fz (ae_bin ?_))
  | ((with_reducible show AE _ _ (Expr.Call (Expr.Name "_law_coin" _) _ _ _) _ _ _); refine ae_fz ?_; refine' ae_call (by assumption) (by assumption) (by decide) ?_))
structure MadI (n g : Nat) (T : Sto) (rs : List Nat) : Prop where
  ok : SOk n T
  red : NRed T.N
  lt : ∀ r ∈ rs, r < T.N.length + 2
  z : rs[0]? = some 0
  nl : T.N.length ≤ g
  cl : T.C.length ≤ g
theorem MadI.init (n : Nat) : MadI n 0 ⟨[], []⟩ [0, 1] := ⟨⟨fun a h2 h => absurd (show a < 0 + 2 from h) (by omega), fun k v h => by cases h⟩, NRed.nil, fun r hr => by
  simp only [List.mem_cons, List.mem_nil_iff, or_false] at hr
  show r < 0 + 2
  omega, rfl, Nat.le_refl _, Nat.le_refl _⟩
theorem MadI.put {n g k g' : Nat} {S T : Sto} {rs : List Nat} {v : Nat} (h : MadI n g S rs) (hT : SOk n T) (hR : NRed T.N) (G : Grow S T k) (hv : v < T.N.length + 2) (hg : g + k ≤ g') : MadI n g' T (rs ++ [v]) := by
  obtain ⟨l1, l2, l3⟩ := G.len
  have a1 := h.nl
  have a2 := h.cl
  refine ⟨hT, hR, fun r hr => ?_, ?_, by omega, by omega⟩
  · rcases List.mem_append.mp hr with q | q
    · have := h.lt r q; omega
    · obtain rfl := List.mem_singleton.mp q; exact hv
  · have := (List.getElem?_eq_some_iff.mp h.z).1
    rw [List.getElem?_append_left this]; exact h.z
theorem MadI.mono {n g g' : Nat} {S : Sto} {rs : List Nat} (h : MadI n g S rs) (hg : g ≤ g') : MadI n g' S rs := ⟨h.ok, h.red, h.lt, h.z, Nat.le_trans h.nl hg, Nat.le_trans h.cl hg⟩
theorem tabs_put {n g : Nat} {S T : Sto} {rs : List Nat} {v : Nat} {F : (Nat → Bool) → Bool} (hS : SOk n S) (hT : SOk n T) (G : Grow S T g) (h : ∀ r ∈ rs, r < S.N.length + 2) (hF : ∀ i, i < 2 ^ n → F (bitF n i) = ev T.N (bitF n i) v) : tabsA n S.N rs ++ [A.l (tabD n F)] = tabsA n T.N (rs ++ [v]) := by
  rw [← tabs_grow hS hT G h]
  show tabsA n T.N rs ++ [A.l ((tabF n F).map PyData.bool)] = _
  rw [tabF_congr (G := fun β => ev T.N β v) hF]; unfold tabsA; rw [List.map_append]; rfl
section
variable {P : Program} {w : World} {K : PySem.W.Frag} {mg : Str → Option Value} {base : Heap} {CS : Addr}
def spMade (CS : Addr) : ASp := fun xs R post _ => ∃ (a : Sad) (pa pb : Addr) (p : Pl) (n most : Nat), xs = [.ptr pa, .ptr a.s, .l ((List.range n).map fun v : Nat => .int v), .i most] ∧ R = (pa, p.res pb) :: (pb, p.lst) :: Sto.rs CS a ⟨[], []⟩ ∧ p.at_ ≤ p.ns.length ∧ n ≤ 10 ∧ most ≤ 60 ∧
  ∀ (p' : Pl) (T : Sto) (rs : List Nat) (q : Addr), p'.ns = p.ns → p'.at_ ≤ p'.ns.length → MadI n (n + most * 4100) T rs → rs.length ≤ 72 → 2 ≤ rs.length → post (.ptr q) ((q, .lst [.l (rs.map fun v : Nat => .int v), .l (rs.map fun r => .list (tabD n fun β => ev T.N β r))]) :: (pa, p'.res pb) :: (pb, p'.lst) :: Sto.rs CS a T)
theorem mon_made (CS : Addr) : Mon (spMade CS) := fun xs R p p' e e' h _ ⟨a, pa, pb, pl, n, most, h1, h2, h3, h4, h5, k⟩ => ⟨a, pa, pb, pl, n, most, h1, h2, h3, h4, h5, fun p' T rs q z1 z2 z3 z4 z5 => h _ _ (k p' T rs q z1 z2 z3 z4 z5)⟩
theorem c__law_made (d : Df K mg "_law_made" s__law_made ["pool", "store", "levels", "most"]) (B : Blt mg) (T2 : StoC K mg CS) (md : Cal P w K mg base 2 "_law_draw" ["pool", "many"] spLawDraw) (mCoin : Cal P w K mg base 1 "_law_coin" ["many", "k"] spLCoin)
    (mSC : Mcal P w K mg base 2 CS "coin" ["self", "level"] (spCoin CS)) (mDeed : Cal P w K mg base 6 "_law_deed" ["pool", "store", "refs", "tables", "levels"] (spDeed CS)) :
    Cal P w K mg base 7 "_law_made" ["pool", "store", "levels", "most"] (spMade CS) := d.cal (mon_made CS) fun f fd F => by
  have bLen := B.len
  refine okA F sc__law_made lc__law_made (fun xs R q e h => ?_) ?_
  · obtain ⟨a, pa, pb, p, n, most, rfl, _⟩ := h; rfl
  rintro X hX hU hr ⟨cdv, Ar, outer, s, H, E, rfl⟩ xs R post exc ⟨a, pa, pb, p, n, most, rfl, rfl, hp, hn, hmo, kont⟩
  show ASs _ _ (defBody s__law_made) [("pool", some (.ptr pa)), ("store", some (.ptr a.s)), ("levels", some (.l ((List.range n).map fun v : Nat => .int v))), ("most", some (.i most)), ("size", none), ("refs", none), ("tables", none), ("k", none), ("pair", none)] _ _
  have hsz : 2000000 < sizeLine := by decide
  have hpw := pw10 hn
  have elen : (((List.range n).map fun v : Nat => PyData.int v).length : Int) = (n : Int) := by rw [List.length_map, List.length_range]
  have hlv : ∀ k, k < n → atI ((List.range n).map fun v : Nat => PyData.int v) (k : Int) = some (.int (k : Int)) := fun k hk => atI_nat (by rw [List.getElem?_map, List.getElem?_range hk]; rfl)
  walk_at "go"
  refine ba_shl ⟨Int.natCast_nonneg _, by rw [elen]; omega, by decide⟩ ?_
  rw [elen, two_shl]
  walk_at "go"
  refine ⟨le_two, fun rf => ?_⟩
  walk_at "go"
  refine ⟨(show 1 ≤ sizeLine by decide), fun q1 => ?_⟩
  walk_at "go"
  have hpn : (List.length [A.b false]) * (((2 ^ n : Nat) : Int)).toNat ≤ sizeLine := by rw [Int.toNat_natCast]; show 1 * _ ≤ _; omega
  have hpn2 : (List.length [A.b true]) * (((2 ^ n : Nat) : Int)).toNat ≤ sizeLine := by rw [Int.toNat_natCast]; show 1 * _ ≤ _; omega
  refine ba_rep .here (Int.natCast_nonneg _) (rng10 hn).2 hpn fun q2 => ?_
  rw [tab_rep]
  refine ⟨q2, _, _, _, rfl, .here, AsD.map _, ?_⟩
  walk_at "go"
  refine ⟨(show 1 ≤ sizeLine by decide), fun q3 => ?_⟩
  walk_at "go"
  refine ba_rep .here (Int.natCast_nonneg _) (rng10 hn).2 hpn2 fun q4 => ?_
  rw [tab_rep]
  refine ⟨q4, _, _, _, rfl, .here, AsD.map _, ?_⟩
  walk_at "go"
  refine ⟨le_two, fun tb => ?_⟩
  have e0 : [A.l (tabD n fun _ => false), A.l (tabD n fun _ => true)] = tabsA n [] [0, 1] := by
    show _ = [A.l (tabD n fun β => ev [] β 0), A.l (tabD n fun β => ev [] β 1)]
    rw [show (fun β => ev [] β 0) = fun _ => false from funext fun β => ev_one _ _ (by decide), show (fun β => ev [] β 1) = fun _ => true from funext fun β => ev_one _ _ (by decide)]
  rw [e0]
  refine ag_name hX (by walk_at "mem") (by walk_at "up") ?_
  show ASs _ _ _ _ _ _
  refine as_weak (R' := DdR CS a ⟨[], []⟩ pa pb p rf tb n [0, 1]) (Le.cons (.there (.there (.there (.there .here)))) (Le.cons (.there (.there (.there (.there .here)))) (Le.cons (.there (.there (.there .here))) (Le.cons .here (Le.trans Le.drop Le.drop))))) (Fg.refl _) ?_
  walk_at "go"
  refine as_for (fun i δ R => ∃ (S : Sto) (rs : List Nat) (v1 : Option AL.A), MadI n i S rs ∧ rs.length = 2 + i ∧ i ≤ n ∧
    δ = ([("pool", some (.ptr pa)), ("store", some (.ptr a.s)), ("levels", some (.l ((List.range n).map fun v : Nat => .int v))), ("most", some (.i most)), ("size", some (.i ((2 ^ n : Nat) : Int))), ("refs", some (.ptr rf)), ("tables", some (.ptr tb)), ("k", v1), ("pair", none)] : SL) ∧ R = DdR CS a S pa pb p rf tb n rs) hX ?_
  refine ai_range1 B.range ?_
  walk_at "go"
  rw [elen]
  refine ⟨_, rfl, by omega, by omega, Wk.self ⟨_, _, _, MadI.init n, rfl, Nat.zero_le _, rfl, rfl⟩, fun _ _ _ _ => trivial, ?_, ?_⟩
  · rintro i x δ R hi0 ⟨S, rs, v1, hI, hl, hin, rfl, rfl⟩
    obtain ⟨hi, rfl⟩ := rangeA_get hi0
    clear hi0
    rw [Int.toNat_natCast] at hi
    rw [Int.zero_add]
    have b1 := hI.nl
    have b2 := hI.cl
    walk_at "go"
    refine ia_l (hlv i hi) ?_
    walk_at "go"
    refine ⟨Sto.rs CS a S, _, by walk_at "spl", a, S, n, i, rfl, rfl, hI.ok, ⟨by omega, by omega⟩, hi, fun T v q1 q2 q3 q4 q5 => ?_⟩
    have hJ := hI.put q1 (q5 hI.red) q2 q3 (Nat.le_refl (i + 1))
    have eT := tabs_put (F := fun β => β i) hI.ok q1 q2 hI.lt (fun j _ => (q4 _).symm)
    have eR : (rs.map fun v : Nat => A.i v) ++ [A.i (v : Int)] = (rs ++ [v]).map fun v : Nat => A.i v := by rw [List.map_append]; rfl
    have hl2 : (rs.map fun v : Nat => A.i v).length < sizeLine := by rw [List.length_map]; omega
    have hl3 : (tabsA n S.N rs).length < sizeLine := by rw [List.length_map]; omega
    walk_at "go"
    show MA _ _ _ _ (Sto.rx CS a T [(pa, p.res pb), (pb, p.lst), (rf, .lst (rs.map fun v : Nat => A.i v)), (tb, .lst (tabsA n S.N rs))]) _
    walk_at "go"
    rw [eR]
    walk_at "go"
    rw [elen]
    refine ⟨[], _, .nil, n, i, rfl, rfl, hi, hn, fun q => ⟨q, _, _, _, rfl, .here, AsD.map _, ?_⟩⟩
    walk_at "go"
    show MA _ _ _ _ (Sto.rx CS a T [(pa, p.res pb), (pb, p.lst), (rf, .lst ((rs ++ [v]).map fun v : Nat => A.i v)), (tb, .lst (tabsA n S.N rs))]) _
    walk_at "go"
    rw [eT]
    refine ⟨_, _, Le.cons (.there (.there (.there (.there (.there (.there .here)))))) (Le.cons (.there (.there (.there (.there (.there (.there .here)))))) (Le.cons (.there (.there (.there (.there (.there (.there .here)))))) (Le.cons (.there (.there (.there (.there (.there (.there .here)))))) (Le.refl _)))), Fg.refl _, T, rs ++ [v], _, hJ, by rw [List.length_append, hl]; rfl, hi, rfl, rfl⟩
  rintro δ R ⟨S, rs, v1, hI, hl, hin, rfl, rfl⟩
  rw [rangeA_len, Int.toNat_natCast] at hI hl
  walk_at "go"
  refine as_for (fun i δ R => ∃ (p2 : Pl) (S : Sto) (rs : List Nat) (v1 v2 : Option AL.A), p2.ns = p.ns ∧ p2.at_ ≤ p2.ns.length ∧ MadI n (n + i * 4100) S rs ∧ rs.length = 2 + n + i ∧ i ≤ most ∧
    δ = ([("pool", some (.ptr pa)), ("store", some (.ptr a.s)), ("levels", some (.l ((List.range n).map fun v : Nat => .int v))), ("most", some (.i most)), ("size", some (.i ((2 ^ n : Nat) : Int))), ("refs", some (.ptr rf)), ("tables", some (.ptr tb)), ("k", v1), ("pair", v2)] : SL) ∧ R = DdR CS a S pa pb p2 rf tb n rs) hX ?_
  refine ai_range1 B.range ?_
  walk_at "go"
  refine fsp_draw (by walk_at "rem") (by walk_at "rem") (by omega) (by omega) hp (fun m p2 d1 d2 d3 d4 => ?_)
  obtain ⟨m, rfl⟩ := Int.eq_ofNat_of_zero_le d1
  walk_at "go"
  refine ⟨_, rfl, by omega, by omega, Wk.self ⟨p2, S, rs, _, _, d3, d4, hI.mono (by omega), by omega, Nat.zero_le _, rfl, rfl⟩, fun _ _ _ _ => trivial, ?_, ?_⟩
  · rintro i x δ R hi0 ⟨p3, S, rs, v1, v2, c1, c2, hI, hl, hin, rfl, rfl⟩
    obtain ⟨hi, rfl⟩ := rangeA_get hi0
    clear hi0
    rw [Int.toNat_natCast] at hi
    have b1 := hI.nl
    have b2 := hI.cl
    walk_at "go"
    refine ⟨DdR CS a S pa pb p3 rf tb n rs, [], by walk_at "spl", a, S, pa, pb, p3, rf, tb, n, rs, rfl, rfl, c2, hI.ok, hI.red, hI.lt, hI.z, by omega, hn, by omega, by omega, fun p4 T v F e1 e2 e3 => ?_⟩
    have hJ := hI.put e3.ok e3.red e3.grow e3.lt (show n + i * 4100 + (4 * 2 ^ n + 4) ≤ n + (i + 1) * 4100 by omega)
    have eT := tabs_put (F := F) hI.ok e3.ok e3.grow hI.lt e3.ev
    rw [← tabs_grow hI.ok e3.ok e3.grow hI.lt] at eT
    have eR : (rs.map fun v : Nat => A.i v) ++ [A.i (v : Int)] = (rs ++ [v]).map fun v : Nat => A.i v := by rw [List.map_append]; rfl
    have hl2 : (rs.map fun v : Nat => A.i v).length < sizeLine := by rw [List.length_map]; omega
    have hl3 : (tabsA n T.N rs).length < sizeLine := by rw [List.length_map]; omega
    show AG _ _ _ _ _ (DdR CS a T pa pb p4 rf tb n rs) _
    walk_at "go"
    rw [eR]
    walk_at "go"
    rw [eT]
    exact ⟨_, _, Le.refl _, Fg.refl _, p4, T, rs ++ [v], _, _, e1.trans c1, e2, hJ, by rw [List.length_append, hl]; rfl, by omega, rfl, rfl⟩
  rintro δ R ⟨p3, S2, rs2, v1, v2, c1, c2, hI2, hl2, hin2, rfl, rfl⟩
  rw [rangeA_len, Int.toNat_natCast] at hI2 hl2 hin2
  show ASs _ _ _ _ _ _
  refine as_fz (.there (.there (.there (.there (.there (.here)))))) (.there (.there (.there (.there (.there (.here)))))) (.there (.there .here)) (AsD.nats _) hX.nd ?_
  refine as_fz (.there (.there (.there (.there (.there (.there (.here))))))) (.there (.there (.there (.there (.there (.there (.here))))))) (.there (.there .here)) (AsD.map2 rs2 fun r => PyData.list (tabD n fun β => ev S2.N β r)) hX.nd ?_
  walk_at "go"
  exact ⟨le_two, fun q => ⟨_, Le.refl _, kont p3 S2 rs2 q c1 c2 (hI2.mono (by omega)) (by omega) (by omega)⟩⟩
end

/-! ### the law's masses and counts -/
local macro_rules | `(tactic| walk_at "ae") => `(tactic| first
  | ((with_reducible show AE _ _ (Expr.Subscript (Expr.Name "chances" _) (Expr.Slice _ _ _ _) _) _ _ _); refine ae_fz (ae_slice ?_)))
theorem cutA_take {α : Type} (xs : List α) (n : Nat) (h : n ≤ xs.length) : cutA xs none (some (n : Int)) = xs.take n := by
  have e : HT.sIx xs.length 0 none = 0 := rfl
  have e2 : HT.sIx xs.length xs.length (some (n : Int)) = n := by rw [HT.sIx_nat]; omega
  unfold cutA
  rw [e, e2]; rfl
structure MsI (cs : List Rat) (n c i : Nat) (t b : Int) : Prop where
  bp : b = (dpr cs i 0 : Nat)
  e : (t : Rat) = massN (pAt cs) (bitF n c) i * (b : Rat)
theorem MsI.init (cs : List Rat) (n c : Nat) : MsI cs n c 0 1 1 := ⟨rfl, by show ((1 : Int) : Rat) = 1 * ((1 : Int) : Rat); grind⟩
theorem MsI.step {cs : List Rat} {n c i : Nat} {t b : Int} (h : MsI cs n c i t b) (q : Rat) (hq : q = pAt cs i) : MsI cs n c (i + 1) (t * if bitF n c i = true then q.num else (q.den : Int) - q.num) (b * (q.den : Int)) := by
  obtain ⟨h1, h2⟩ := h
  have hd := rat_mul_den q
  have hn : ((((q.den : Int) - q.num : Int)) : Rat) = (1 - q) * ((q.den : Int) : Rat) := by rw [Rat.intCast_sub, ← hd]; grind
  refine ⟨by rw [dpr_end, h1, hq, Nat.zero_add]; exact (Int.natCast_mul _ _).symm, ?_⟩
  show _ = massN (pAt cs) (bitF n c) i * (if bitF n c i = true then pAt cs i else 1 + -(pAt cs i)) * _
  rw [← hq]
  by_cases z : bitF n c i = true
  · rw [if_pos z, if_pos z, Rat.intCast_mul, Rat.intCast_mul, h2, ← hd]; grind
  · rw [if_neg z, if_neg z, Rat.intCast_mul, Rat.intCast_mul, h2, hn]; grind
theorem mass01 {p : Nat → Rat} (h : ∀ l, 0 ≤ p l ∧ p l ≤ 1) (β : Nat → Bool) : ∀ n, 0 ≤ massN p β n ∧ massN p β n ≤ 1
  | 0 => ⟨(by decide : (0 : Rat) ≤ 1), Rat.le_refl⟩
  | n + 1 => by
    refine mul01 (mass01 h β n) ?_
    split
    · exact h n
    · rw [← Rat.sub_eq_add_neg]; exact one_sub01 (h n)
theorem massD (cs : List Rat) (β : Nat → Bool) : ∀ n, IntD (dpr cs n 0) (massN (pAt cs) β n)
  | 0 => IntD.one _
  | n + 1 => by
    rw [dpr_end, Nat.zero_add]
    refine (massD cs β n).mul ?_
    split
    · exact IntD.den _
    · rw [← Rat.sub_eq_add_neg]; exact IntD.one_sub (IntD.den _)
def exT (p : Nat → Rat) (n : Nat) (F : (Nat → Bool) → Bool) (c : Nat) : Rat := if F (bitF n c) = true then massN p (bitF n c) n else 0
theorem exT_none (p : Nat → Rat) (n : Nat) (F : (Nat → Bool) → Bool) {c : Nat} (h : ¬ F (bitF n c) = true) : exT p n F c = 0 := if_neg h
theorem sumT_le {f g : Nat → Rat} : ∀ b, (∀ c, c < b → f c ≤ g c) → sumTo b f ≤ sumTo b g
  | 0, _ => Rat.le_refl
  | b + 1, h => by
    show _ + _ ≤ _ + _
    have h1 := sumT_le b fun c hc => h c (Nat.lt_succ_of_lt hc)
    have h2 := h b (Nat.lt_succ_self b)
    grind
theorem sumT_nn {f : Nat → Rat} : ∀ b, (∀ c, 0 ≤ f c) → 0 ≤ sumTo b f
  | 0, _ => Rat.le_refl
  | b + 1, h => by
    show _ ≤ _ + _
    have h1 := sumT_nn b h
    have h2 := h b
    grind
theorem sumT_mono {f : Nat → Rat} (h : ∀ c, 0 ≤ f c) {a b : Nat} (k : a ≤ b) : sumTo a f ≤ sumTo b f := by
  obtain ⟨d, rfl⟩ := Nat.exists_eq_add_of_le k
  rw [sumTo_split]
  have := sumT_nn (f := fun c => f (a + c)) d fun c => h _
  grind
theorem exT01 {p : Nat → Rat} (h : ∀ l, 0 ≤ p l ∧ p l ≤ 1) (n : Nat) (F : (Nat → Bool) → Bool) (c : Nat) : 0 ≤ exT p n F c ∧ exT p n F c ≤ massN p (bitF n c) n := by
  unfold exT
  have := mass01 h (bitF n c) n
  split
  · exact ⟨this.1, Rat.le_refl⟩
  · exact ⟨Rat.le_refl, this.1⟩
theorem ex_part01 {p : Nat → Rat} (h : ∀ l, 0 ≤ p l ∧ p l ≤ 1) (n : Nat) (F : (Nat → Bool) → Bool) {i : Nat} (hi : i ≤ 2 ^ n) : 0 ≤ sumTo i (exT p n F) ∧ sumTo i (exT p n F) ≤ 1 := by
  refine ⟨sumT_nn _ fun c => (exT01 h n F c).1, Rat.le_trans (sumT_mono (fun c => (exT01 h n F c).1) hi) (Rat.le_trans (sumT_le (g := fun c => exT p n (fun _ => true) c) _ fun c _ => ?_) ?_)⟩
  · show _ ≤ exT p n (fun _ => true) c
    have : exT p n (fun _ => true) c = massN p (bitF n c) n := if_pos rfl
    rw [this]; exact (exT01 h n F c).2
  · have := Ex_all p n
    show Ex p n (fun _ => true) ≤ 1
    rw [this]; exact Rat.le_refl
theorem sumD {D : Nat} {f : Nat → Rat} (h : ∀ c, IntD D (f c)) : ∀ b, IntD D (sumTo b f)
  | 0 => IntD.zero _
  | b + 1 => (sumD h b).add (h b)
theorem exT_D (cs : List Rat) (n : Nat) (F : (Nat → Bool) → Bool) (c : Nat) : IntD (dpr cs n 0) (exT (pAt cs) n F c) := by
  unfold exT
  split
  · exact massD cs _ n
  · exact IntD.zero _
theorem mass_congr {p q : Nat → Rat} (β : Nat → Bool) : ∀ n, (∀ l, l < n → p l = q l) → massN p β n = massN q β n
  | 0, _ => rfl
  | n + 1, h => by
    show _ * _ = _ * _
    rw [mass_congr β n fun l hl => h l (Nat.lt_succ_of_lt hl), h n (Nat.lt_succ_self n)]
theorem pAt_take {cs : List Rat} {n l : Nat} (h : l < n) : pAt (cs.take n) l = pAt cs l := by
  unfold pAt
  rw [List.getD_eq_getElem?_getD, List.getD_eq_getElem?_getD, List.getElem?_take_of_lt h]
theorem small_dpr {cs : List Rat} (h : ∀ c ∈ cs, Ch6 c) {n : Nat} (hn : n ≤ 1200) : dpr cs n 0 < 2 ^ 4000 := Nat.lt_of_le_of_lt (dpr_le cs (pAt_den h) n 0) (Nat.lt_of_le_of_lt (Nat.pow_le_pow_right (by decide) hn) pw6)
section
variable {P : Program} {w : World} {K : PySem.W.Frag} {mg : Str → Option Value} {base : Heap}
def spMass : ASp := pur fun xs q => ∃ (c : Nat) (cs : List Rat), xs = [.i c, .l (cs.map dR)] ∧ cs.length ≤ 1000 ∧ (∀ x ∈ cs, Ch6 x) ∧ q (.d (dR (massN (pAt cs) (bitF cs.length c) cs.length)))
theorem mon_mass : Mon spMass := mon_pur fun xs q q' h ⟨c, cs, h1, h2, h3, k⟩ => ⟨c, cs, h1, h2, h3, h _ k⟩
theorem c__law_mass (d : Df K mg "_law_mass" s__law_mass ["index", "chances"]) (B : Blt mg) (m1 : Cal P w K mg base 2 "_law_frac" ["top", "bottom"] spLawFrac) : Cal P w K mg base 3 "_law_mass" ["index", "chances"] spMass := d.cal mon_mass fun f fd F => by
  have bLen := B.len
  refine okA F sc__law_mass lc__law_mass (fun xs R q e h => ?_) ?_
  · obtain ⟨rfl, c, cs, rfl, _⟩ := h; rfl
  rintro X hX hU hr ⟨cdv, Ar, outer, s, H, E, rfl⟩ xs R post exc ⟨rfl, c, cs, rfl, hl, h6, kont⟩
  show ASs _ _ (defBody s__law_mass) [("index", some (.i c)), ("chances", some (.l (cs.map dR))), ("top", none), ("bottom", none), ("k", none), ("one", none)] _ _
  have hsz : 2000000 < sizeLine := by decide
  have hc := ch6_c01 h6
  walk_at "go"
  refine as_for (fun i δ R => ∃ (t b : Int) (v1 v2 : Option AL.A), MsI cs cs.length c i t b ∧ i ≤ cs.length ∧
    δ = ([("index", some (.i c)), ("chances", some (.l (cs.map dR))), ("top", some (.i t)), ("bottom", some (.i b)), ("k", v1), ("one", v2)] : SL) ∧ R = []) hX ?_
  refine ai_range1 B.range ?_
  walk_at "go"
  rw [List.length_map]
  refine ⟨_, rfl, by omega, by omega, Wk.self ⟨1, 1, _, _, MsI.init _ _ _, Nat.zero_le _, rfl, rfl⟩, fun _ _ _ _ => trivial, ?_, ?_⟩
  · rintro i x δ R hi0 ⟨t, b, v1, v2, hI, hin, rfl, rfl⟩
    obtain ⟨hi, rfl⟩ := rangeA_get hi0
    clear hi0
    rw [Int.toNat_natCast] at hi
    rw [Int.zero_add]
    have s0 : b.natAbs < 2 ^ 4000 := by rw [hI.bp, Int.natAbs_natCast]; exact small_dpr h6 (by omega)
    have hb0 : 0 ≤ b := by rw [hI.bp]; exact Int.natCast_nonneg _
    obtain ⟨t0, t1⟩ := le_of_frac hI.e (mass01 hc.bd _ i) hb0
    have s1 : t.natAbs < 2 ^ 4000 := Nat.lt_of_le_of_lt (by omega) s0
    obtain ⟨s5, s6, s7⟩ := ch6_small (h6 _ (pAt_mem hi))
    have hS := hI.step _ rfl
    walk_at "go"
    refine ia_l (cs_at hi) ?_
    show AG _ _ _ (.d (dR (pAt cs i))) _ _ _
    walk_at "go"
    refine ba_shr (Int.natCast_nonneg _) ?_
    walk_at "go"
    refine ba_band ?_
    walk_at "go"
    rw [shr_and]
    have ebit : c.testBit i = bitF cs.length c i := by rw [bitF_test, decide_eq_true hi, Bool.true_and]
    rw [ebit]
    refine ⟨fun hz => ?_, fun hz => ?_⟩
    · rw [if_pos hz] at hS
      walk_at "go"
      exact Wk.self ⟨_, _, _, _, hS, by omega, rfl, rfl⟩
    · rw [if_neg (by rw [hz]; decide)] at hS
      walk_at "go"
      exact Wk.self ⟨_, _, _, _, hS, by omega, rfl, rfl⟩
  · rintro δ R ⟨t, b, v1, v2, hI, hin, rfl, rfl⟩
    rw [rangeA_len, Int.toNat_natCast] at hI hin
    walk_at "go"
    have hb0 : 0 < b := by rw [hI.bp]; exact Int.ofNat_lt.mpr (dpr_pos cs _ 0)
    have s0 : b.natAbs < 2 ^ 4000 := by rw [hI.bp, Int.natAbs_natCast]; exact small_dpr h6 (by omega)
    obtain ⟨t0, t1⟩ := le_of_frac hI.e (mass01 hc.bd _ _) (Int.le_of_lt hb0)
    have s1 : t.natAbs < 2 ^ 4000 := Nat.lt_of_le_of_lt (by omega) s0
    refine ⟨_, _, rfl, by omega, Nat.lt_of_lt_of_le s1 (Nat.pow_le_pow_right (by decide) (by decide)), Nat.lt_of_lt_of_le s0 (Nat.pow_le_pow_right (by decide) (by decide)), ?_⟩
    rw [divInt_of hb0 hI.e]
    exact ⟨_, Le.refl _, kont⟩
end

end
section
local macro_rules | `(tactic| walk_at "flk") => `(tactic| first | exact stF_lv _ | exact stF_lo _ | exact stF_hi _ | exact stF_nd _ | exact stF_ch _)
local macro_rules | `(tactic| walk_at "len") => `(tactic| first | omega | (simp only [Sto.lvs, Sto.los, Sto.his, List.length_map, ndD, ndG_len, chD, List.length_append, List.length_cons, List.length_nil]; omega))
local macro_rules | `(tactic| walk_at "ixl") => `(tactic| first | rfl | (refine lvs_at ?_ ?_ <;> omega) | (refine los_at ?_ ?_ <;> omega) | (refine his_at ?_ ?_ <;> omega))

/-! ### reversed(a list of data) -/
theorem ita_v {K : PySem.W.Frag} {a : Addr} {vs : List V} {P : Hp} {xs : List A} (h : SqL K P a vs) (hd : PAv K P vs xs) : ItA K (L2.Itv K a vs.length) xs.reverse (fun _ => True) P := by
  have hl : vs.length = xs.length := hd.length
  refine ⟨fun i R P1 H hi _ e w => ?_, fun R P1 H _ e w => ?_, fun i R P1 H v H' _ e w hi y => ?_⟩
  · rw [List.length_reverse] at hi
    exact ⟨by omega, vs, vs[vs.length - 1 - i]'(by omega), w.sub.seq (e.seq h), by simp⟩
  · show vs.length ≤ xs.reverse.length; rw [List.length_reverse]; omega
  · obtain ⟨rfl, y⟩ := y
    rw [List.length_reverse] at hi
    have hi2 : xs.length - 1 - i < xs.length := by omega
    obtain ⟨v', h1, h2⟩ := pav_get (i := xs.length - 1 - i) hd (List.getElem?_eq_getElem hi2)
    have h3 := y vs (w.sub.seq (e.seq h))
    rw [hl, h1] at h3
    cases h3
    exact ⟨P1, _, by rw [List.getElem?_reverse hi]; exact List.getElem?_eq_getElem hi2, av_mono e h2, w, Stp.refl⟩
theorem ai_rev {X : Cx} {ex : EX} {tg e : Expr} {δ : SL} {R : RL} {p pos : Pos} {postI : List A → (RL → Prop) → RL → Prop} (hm : X.mg "reversed" = none) (h : AEs X ex [e] δ R fun as R1 => ∃ ds : List PyData, as = [.l ds] ∧ postI (ds.reverse.map .d) (fun _ => True) R1)
    (hg : Gl X "reversed" := by rfl) (hs : starEach [e] X.env = [(false, eval e X.env)] := by rfl) : AI X ex tg (.Call (.Name "reversed" p) [e] [] pos) δ R postI := fun σ P H hS hW hT Rr q => by
  refine wI_of (pi_reversed hg hm pa_w hs) ?_
  refine h σ P H hS hW hT _ fun vs xs R1 P1 H1 h1 h2 h3 h4 => ?_
  obtain ⟨ds, rfl, k⟩ := h1
  obtain ⟨y, rfl, h5⟩ := pav1 h2
  have h5 : Dp X.K P1 y (.list ds) := h5
  cases h5 with
  | @lst a0 vs0 ds0 hs hd =>
    refine ⟨a0, vs0, rfl, h3.sub.seq hs, q _ _ _ R1 P1 H1 k ?_ h3 h4⟩
    rw [List.map_reverse]
    exact ita_v hs (dpAll_pav hd)

/-! ### dividing -/
local macro_rules | `(tactic| walk_at "as") => `(tactic| first
  | ((with_reducible show AS _ _ (Stmt.Raise (some _) none _) _ _ _); refine' as_raise (by assumption) (XD.calm (by assumption)) ?_))
local macro_rules | `(tactic| walk_at "ae") => `(tactic| first
  | ((with_reducible show AE _ _ (Expr.List [_, _] _) _ _ _); refine ae_fz (ae_lst ?_)))
theorem rnum_pos {b : Rat} (hb : 0 < b) : 0 < b.num := by
  have h1 := Rat.num_nonneg.mpr (Rat.le_of_lt hb)
  have h2 : b.num ≠ 0 := fun z => by
    have e := rat_mul_den b
    rw [z] at e
    have d : (0 : Rat) < ((b.den : Int) : Rat) := Rat.intCast_pos.mpr (by have := b.den_pos; omega)
    have := Rat.mul_pos hb d
    rw [e] at this
    exact absurd this (by decide)
  omega
theorem rat_div {a b : Rat} (hb : 0 < b) : Rat.divInt (a.num * (b.den : Int)) ((a.den : Int) * b.num) = a / b := by
  have h0 : 0 < b.num := rnum_pos hb
  have hp : 0 < (a.den : Int) * b.num := Int.mul_pos (by have := a.den_pos; omega) h0
  refine divInt_of hp ?_
  have h1 := rat_mul_den a
  have h2 := rat_mul_den b
  have h3 : a / b * b = a := Rat.div_mul_cancel (by intro z; rw [z] at hb; exact absurd hb (by decide))
  rw [Rat.intCast_mul, Rat.intCast_mul, ← h1, ← h2]
  generalize ((a.den : Int) : Rat) = x at *
  generalize ((b.den : Int) : Rat) = y at *
  calc a * x * y = (a / b * b) * x * y := by rw [h3]
    _ = a / b * (x * (b * y)) := by grind
theorem eqv_dR0 (q : Rat) : PyData.eqv (dR q) (.tuple [.int 0, .int 1]) = decide (q = 0) := by
  unfold dR
  have e : (q = 0) ↔ (q.num = 0 ∧ (q.den : Int) = 1) := ⟨fun h => by rw [h]; exact ⟨rfl, rfl⟩, fun ⟨h1, h2⟩ => by
    have := rat_mul_den q
    rw [h1, h2] at this
    have e1 : ((1 : Int) : Rat) = 1 := rfl
    have e0 : ((0 : Int) : Rat) = 0 := rfl
    rw [e1, e0, Rat.mul_one] at this
    exact this⟩
  by_cases h : q = 0
  · obtain ⟨h1, h2⟩ := e.mp h
    rw [decide_eq_true h, h1, h2]; simp [PyData.eqv, PyData.eqvAll]
  · rw [decide_eq_false h]
    by_cases h1 : q.num = 0
    · have h2 : ¬ (q.den : Int) = 1 := fun z => h (e.mpr ⟨h1, z⟩)
      simp [PyData.eqv, PyData.eqvAll]
      intro _; omega
    · simp [PyData.eqv, PyData.eqvAll, h1]
theorem shaped_dR (q : Rat) : SeqAt.shaped (dR q) = true := by
  unfold dR SeqAt.shaped
  simp [PyData.canLay0, PyData.canLayAll0, PyData.depth, PyData.depthAll]
section
variable {P : Program} {w : World} {K : PySem.W.Frag} {mg : Str → Option Value} {base : Heap} {C CE : Addr}
def spOver : ASp := pur fun xs q => ∃ a b : Rat, xs = [.d (dR a), .d (dR b)] ∧ RB a ∧ RB b ∧ 0 < b ∧ q (.d (dR (a / b)))
theorem mon_over : Mon spOver := mon_pur fun xs q q' h ⟨a, b, h1, h2, h3, h4, k⟩ => ⟨a, b, h1, h2, h3, h4, h _ k⟩
theorem c_over (d : Df K mg "over" s_over ["a", "b"]) (c1 : Cal P w K mg base 1 "ratio" ["top", "bottom"] spRatio) : Cal P w K mg base 2 "over" ["a", "b"] spOver := d.cal mon_over fun f fd F => by
  refine okA F sc_over lc_over (fun xs R q e h => ?_) ?_
  · obtain ⟨rfl, t, b, rfl, _⟩ := h; rfl
  rintro X hX hU hr ⟨cdv, Ar, outer, s, H, E, rfl⟩ xs R post exc ⟨rfl, a, b, rfl, ha, hb, hb0, k⟩
  have a1 := ha.n
  have a2 := ha.d
  have b1 := hb.n
  have b2 := hb.d
  show ASs _ _ (defBody s_over) [("a", some (.d (dR a))), ("b", some (.d (dR b)))] _ _
  walk_at "go"
  have h0 : 0 < b.num := rnum_pos hb0
  have hp : 0 < (a.den : Int) * b.num := Int.mul_pos (by have := a.den_pos; omega) h0
  refine ⟨_, _, rfl, by omega, Nat.lt_of_lt_of_le (wide_lt a2 b1) (Nat.pow_le_pow_right (by decide) (by decide)), [], Le.refl _, ?_⟩
  rw [rat_div hb0]
  exact k
end

/-! ### greatest masses -/
def bt (p : Nat → Rat) (l : Nat) : Rat := if 1 - p l < p l then p l else 1 - p l
/-- the product of the better chances of k coins from l on -/
def fr (p : Nat → Rat) : Nat → Nat → Rat
  | 0, _ => 1
  | k + 1, l => fr p k (l + 1) * bt p l
def cofN (N : List K3) (l : Nat) (v : Bool) (a : Nat) : Nat := if 2 ≤ a ∧ lvN N a = l then (if v then hiN N a else loN N a) else a
def mxR (x y : Rat) : Rat := if y ≤ x then x else y
/-- the greatest mass of k coins from l on that makes a true -/
def mxA (N : List K3) (p : Nat → Rat) : Nat → Nat → Nat → Rat
  | 0, _, a => if a = 1 then 1 else 0
  | k + 1, l, a => mxR ((1 - p l) * mxA N p k (l + 1) (cofN N l false a)) (p l * mxA N p k (l + 1) (cofN N l true a))
theorem cof_skip {N : List K3} {l a : Nat} (v : Bool) (h : ¬ (2 ≤ a ∧ lvN N a = l)) : cofN N l v a = a := if_neg h
theorem cof_at {N : List K3} {l a : Nat} (v : Bool) (h2 : 2 ≤ a) (h : lvN N a = l) : cofN N l v a = if v then hiN N a else loN N a := if_pos ⟨h2, h⟩
theorem mxR_01 {x y : Rat} (hx : 0 ≤ x ∧ x ≤ 1) (hy : 0 ≤ y ∧ y ≤ 1) : 0 ≤ mxR x y ∧ mxR x y ≤ 1 := by unfold mxR; split <;> assumption
theorem mxA_01 {N : List K3} {p : Nat → Rat} (h : ∀ l, 0 ≤ p l ∧ p l ≤ 1) : ∀ k l a, 0 ≤ mxA N p k l a ∧ mxA N p k l a ≤ 1
  | 0, _, a => by unfold mxA; split <;> exact ⟨by decide, by decide⟩
  | k + 1, l, a => mxR_01 (mul01 (one_sub01 (h l)) (mxA_01 h k _ _)) (mul01 (h l) (mxA_01 h k _ _))
theorem mxA_zero (N : List K3) (p : Nat → Rat) : ∀ k l, mxA N p k l 0 = 0
  | 0, _ => rfl
  | k + 1, l => by
    unfold mxA
    rw [cof_skip _ (by omega), cof_skip _ (by omega), mxA_zero N p k (l + 1), Rat.mul_zero, Rat.mul_zero]
    unfold mxR; split <;> rfl
theorem rmul_pos {a b : Rat} (ha : 0 < a) (hb : 0 < b) : 0 < a * b := Rat.mul_pos ha hb
theorem mxR_mul {q x : Rat} (hx : 0 ≤ x) : mxR ((1 - q) * x) (q * x) = x * (if 1 - q < q then q else 1 - q) := by
  by_cases h0 : x = 0
  · subst h0; rw [Rat.mul_zero, Rat.mul_zero, Rat.zero_mul]; unfold mxR; split <;> rfl
  have hp : 0 < x := by grind
  unfold mxR
  by_cases h1 : 1 - q < q
  · have := rmul_pos (show 0 < q - (1 - q) by grind) hp
    rw [if_neg (by grind), if_pos h1]; grind
  · rw [if_neg h1]
    by_cases h2 : q * x ≤ (1 - q) * x
    · rw [if_pos h2]; grind
    · rw [if_neg h2]
      have h3 : q = 1 - q ∨ 0 < (1 - q) - q := by grind
      rcases h3 with h3 | h3
      · rw [← h3]; grind
      · have := rmul_pos h3 hp
        exfalso; grind
theorem bt_pos (p : Nat → Rat) (l : Nat) : 0 < bt p l := by unfold bt; split <;> grind
theorem bt_01 {p : Nat → Rat} (h : ∀ l, 0 ≤ p l ∧ p l ≤ 1) (l : Nat) : 0 ≤ bt p l ∧ bt p l ≤ 1 := by
  have := h l
  unfold bt; split <;> grind
theorem fr_pos (p : Nat → Rat) : ∀ k l, 0 < fr p k l
  | 0, _ => by show (0 : Rat) < 1; decide
  | k + 1, l => rmul_pos (fr_pos p k (l + 1)) (bt_pos p l)
theorem fr_01 {p : Nat → Rat} (h : ∀ l, 0 ≤ p l ∧ p l ≤ 1) : ∀ k l, 0 ≤ fr p k l ∧ fr p k l ≤ 1
  | 0, _ => ⟨by show (0 : Rat) ≤ 1; decide, by show (1 : Rat) ≤ 1; decide⟩
  | k + 1, l => mul01 (fr_01 h k (l + 1)) (bt_01 h l)
theorem fr_add (p : Nat → Rat) (k : Nat) : ∀ d l, fr p (d + k) l = fr p d l * fr p k (l + d)
  | 0, l => by rw [Nat.zero_add]; show _ = 1 * _; rw [Rat.one_mul]; rfl
  | d + 1, l => by
    rw [show d + 1 + k = (d + k) + 1 by omega]
    show fr p (d + k) (l + 1) * bt p l = fr p d (l + 1) * bt p l * _
    rw [fr_add p k d (l + 1), show l + 1 + d = l + (d + 1) by omega]
    grind
theorem mxA_skip {N : List K3} {p : Nat → Rat} (h : ∀ l, 0 ≤ p l ∧ p l ≤ 1) {a : Nat} (k : Nat) : ∀ d l, (2 ≤ a → l + d ≤ lvN N a) → mxA N p (d + k) l a = fr p d l * mxA N p k (l + d) a
  | 0, l, _ => by rw [Nat.zero_add]; show _ = 1 * _; rw [Rat.one_mul]; rfl
  | d + 1, l, hl => by
    rw [show d + 1 + k = (d + k) + 1 by omega]
    have ns : ¬ (2 ≤ a ∧ lvN N a = l) := fun z => by have := hl z.1; omega
    show mxR ((1 - p l) * mxA N p (d + k) (l + 1) (cofN N l false a)) (p l * mxA N p (d + k) (l + 1) (cofN N l true a)) = fr p d (l + 1) * bt p l * _
    rw [cof_skip _ ns, cof_skip _ ns, mxR_mul (mxA_01 h _ _ _).1, mxA_skip h k d (l + 1) (fun z => by have := hl z; omega), show l + 1 + d = l + (d + 1) by omega]
    unfold bt
    grind
theorem mxA_one {N : List K3} {p : Nat → Rat} (h : ∀ l, 0 ≤ p l ∧ p l ≤ 1) (k l : Nat) : mxA N p k l 1 = fr p k l := by
  have := mxA_skip (N := N) h (a := 1) 0 k l (by omega)
  rw [Nat.add_zero] at this
  rw [this]; show _ * (1 : Rat) = _; rw [Rat.mul_one]
/-- the value of a reference seen from a level, by its own level -/
theorem side_node {N : List K3} {p : Nat → Rat} (h : ∀ l, 0 ≤ p l ∧ p l ≤ 1) {a T l m : Nat} (h2 : 2 ≤ a) (hl : l ≤ m) (hm : m ≤ T) (ha : lvN N a = m) : fr p (T - l) l / fr p (T - m) m * mxA N p (T - m) m a = mxA N p (T - l) l a := by
  have e := mxA_skip (N := N) h (a := a) (T - m) (m - l) l (fun _ => by omega)
  have f := fr_add p (T - m) (m - l) l
  rw [show m - l + (T - m) = T - l by omega, show l + (m - l) = m by omega] at e f
  rw [e, f]
  have hp := fr_pos p (T - m) m
  rw [Rat.mul_div_cancel (by intro z; rw [z] at hp; exact absurd hp (by decide))]
theorem fr_D {cs : List Rat} : ∀ k l, IntD (dpr cs k l) (fr (pAt cs) k l)
  | 0, _ => IntD.one _
  | k + 1, l => by
    show IntD _ (_ * _)
    rw [Rat.mul_comm]
    refine IntD.mul ?_ (fr_D k (l + 1))
    unfold bt
    split
    · exact IntD.den _
    · exact (IntD.den _).one_sub
theorem mxA_D {N : List K3} {cs : List Rat} : ∀ k l a, IntD (dpr cs k l) (mxA N (pAt cs) k l a)
  | 0, _, a => by unfold mxA; split; exact IntD.one _; exact IntD.zero _
  | k + 1, l, a => by
    have h1 := (IntD.den (pAt cs l)).one_sub.mul (mxA_D (N := N) (cs := cs) k (l + 1) (cofN N l false a))
    have h2 := (IntD.den (pAt cs l)).mul (mxA_D (N := N) (cs := cs) k (l + 1) (cofN N l true a))
    unfold mxA mxR
    split
    · exact h1
    · exact h2
/-! ### the first of the best -/
def asg (bs : List Bool) (k : Nat) : Bool := bs.getD k false
def cmb (x y : Option (List Bool × Rat)) : Option (List Bool × Rat) := match y with
  | none => x
  | some b => match x with
    | none => some b
    | some c => if c.2 < b.2 then some b else some c
theorem cmb_none (x : Option (List Bool × Rat)) : cmb none x = x := by cases x <;> rfl
theorem cmb_assoc (x y z : Option (List Bool × Rat)) : cmb (cmb x y) z = cmb x (cmb y z) := by
  cases z with
  | none => rfl
  | some c =>
    cases y with
    | none => rfl
    | some b =>
      cases x with
      | none => rw [cmb_none, cmb_none]
      | some a =>
        by_cases h1 : a.2 < b.2
        · by_cases h2 : b.2 < c.2
          · have h3 : a.2 < c.2 := by grind
            simp [cmb, h1, h2, h3]
          · simp [cmb, h1, h2]
        · by_cases h2 : b.2 < c.2
          · simp [cmb, h1, h2]
          · have h3 : ¬ a.2 < c.2 := by grind
            simp [cmb, h1, h2, h3]
def fmx (F : (Nat → Bool) → Bool) (p : Nat → Rat) (T : Nat) : Nat → List Bool → Option (List Bool × Rat)
  | 0, pre => if F (asg pre) = true then some (pre, massN p (asg pre) T) else none
  | k + 1, pre => cmb (fmx F p T k (pre ++ [false])) (fmx F p T k (pre ++ [true]))
def bitsT (T t : Nat) : List Bool := (List.range T).map fun k => t.testBit (T - 1 - k)
theorem bitsT_succ (n s : Nat) (b : Bool) : bitsT (n + 1) (2 * s + b.toNat) = bitsT n s ++ [b] := by
  unfold bitsT
  rw [List.range_succ, List.map_append]
  congr 1
  · refine List.map_congr_left fun k hk => ?_
    have hk := List.mem_range.mp hk
    rw [show n + 1 - 1 - k = (n - 1 - k) + 1 by omega, Nat.testBit_succ]
    congr 1
    cases b <;> simp [Bool.toNat] <;> omega
  · simp only [List.map_cons, List.map_nil, show n + 1 - 1 - n = 0 by omega, Nat.testBit_zero]
    cases b <;> simp [Bool.toNat] <;> omega
def bst (F : (Nat → Bool) → Bool) (p : Nat → Rat) (T : Nat) : Nat → Option (List Bool × Rat)
  | 0 => none
  | t + 1 => cmb (bst F p T t) (fmx F p T 0 (bitsT T t))
theorem bst_block (F : (Nat → Bool) → Bool) (p : Nat → Rat) (T : Nat) : ∀ k s, k ≤ T → bst F p T (s * 2 ^ k + 2 ^ k) = cmb (bst F p T (s * 2 ^ k)) (fmx F p T k (bitsT (T - k) s))
  | 0, s, _ => by
    rw [Nat.pow_zero, Nat.mul_one]; rfl
  | k + 1, s, hk => by
    have h1 := bst_block F p T k (2 * s) (by omega)
    have h2 := bst_block F p T k (2 * s + 1) (by omega)
    have e1 := bitsT_succ (T - (k + 1)) s false
    have e2 := bitsT_succ (T - (k + 1)) s true
    rw [show T - (k + 1) + 1 = T - k by omega] at e1 e2
    simp only [Bool.toNat_false, Bool.toNat_true, Nat.add_zero] at e1 e2
    rw [e1] at h1
    rw [e2, show (2 * s + 1) * 2 ^ k = 2 * s * 2 ^ k + 2 ^ k by rw [Nat.add_mul, Nat.one_mul], h1, cmb_assoc] at h2
    rw [show s * 2 ^ (k + 1) + 2 ^ (k + 1) = 2 * s * 2 ^ k + 2 ^ k + 2 ^ k by rw [Nat.pow_succ]; generalize 2 ^ k = z; rw [show s * (z * 2) = 2 * s * z by rw [Nat.mul_comm z 2, ← Nat.mul_assoc, Nat.mul_comm s 2]]; omega, h2, show 2 * s * 2 ^ k = s * 2 ^ (k + 1) by rw [Nat.pow_succ]; generalize 2 ^ k = z; rw [Nat.mul_comm z 2, ← Nat.mul_assoc, Nat.mul_comm s 2]]
    rfl
theorem bst_all (F : (Nat → Bool) → Bool) (p : Nat → Rat) (T : Nat) : bst F p T (2 ^ T) = fmx F p T T [] := by
  have := bst_block F p T T 0 (Nat.le_refl T)
  rw [Nat.zero_mul, Nat.zero_add, Nat.sub_self] at this
  rw [this]; exact cmb_none _
/-- the least assignment that makes a true, the first of the best -/
def lstB (N : List K3) : Nat → Nat → Nat → List Bool
  | 0, _, _ => []
  | k + 1, l, a =>
    let v := if 2 ≤ a ∧ lvN N a = l then decide (loN N a = 0) else false
    v :: lstB N k (l + 1) (cofN N l v a)
def grV (N : List K3) (p : Nat → Rat) (k l a : Nat) : Bool :=
  if 2 ≤ a ∧ lvN N a = l then decide ((1 - p l) * mxA N p k (l + 1) (loN N a) < p l * mxA N p k (l + 1) (hiN N a)) else decide (1 - p l < p l)
def grB (N : List K3) (p : Nat → Rat) : Nat → Nat → Nat → List Bool
  | 0, _, _ => []
  | k + 1, l, a => grV N p k l a :: grB N p k (l + 1) (cofN N l (grV N p k l a) a)
theorem asg_app {pre ext : List Bool} {j : Nat} (h : j < pre.length) : asg (pre ++ ext) j = asg pre j := by
  unfold asg
  rw [List.getD_eq_getElem?_getD, List.getD_eq_getElem?_getD, List.getElem?_append_left h]
theorem asg_mid {pre ext : List Bool} {v : Bool} : asg (pre ++ v :: ext) pre.length = v := by
  unfold asg
  rw [List.getD_eq_getElem?_getD, List.getElem?_append_right (Nat.le_refl _), Nat.sub_self]; rfl
theorem mass_snoc (p : Nat → Rat) (pre : List Bool) (v : Bool) : massN p (asg (pre ++ [v])) (pre.length + 1) = massN p (asg pre) pre.length * (if v = true then p pre.length else 1 - p pre.length) := by
  show massN p _ _ * (if asg (pre ++ [v]) pre.length = true then _ else _) = _
  rw [asg_mid, massN_congr pre.length fun l hl => asg_app hl, Rat.sub_eq_add_neg]
theorem ev_cof {M : Nat} {N : List K3} (hN : NOk M N) (β : Nat → Bool) {a l : Nat} (ha : a < N.length + 2) : ev N β a = ev N β (cofN N l (β l) a) := by
  by_cases h : 2 ≤ a ∧ lvN N a = l
  · rw [cof_at _ h.1 h.2, ev_step hN β h.1 ha, h.2]
  · rw [cof_skip _ h]
theorem cof_lt {M : Nat} {N : List K3} (hN : NOk M N) {a l : Nat} (v : Bool) (ha : a < N.length + 2) (hg : geL N l a) : cofN N l v a < N.length + 2 ∧ geL N (l + 1) (cofN N l v a) := by
  by_cases h : 2 ≤ a ∧ lvN N a = l
  · rw [cof_at _ h.1 h.2]
    have ok := hN a h.1 ha
    have o1 := ok.lo
    have o2 := ok.hi
    have o3 := ok.llo
    have o4 := ok.lhi
    rw [h.2] at o3 o4
    cases v
    · exact ⟨Nat.lt_trans o1 ha, o3⟩
    · exact ⟨Nat.lt_trans o2 ha, o4⟩
  · rw [cof_skip _ h]
    exact ⟨ha, fun h2 => by have := hg h2; have : lvN N a ≠ l := fun z => h ⟨h2, z⟩; omega⟩
theorem fmx_eq {M T : Nat} {N : List K3} {p : Nat → Rat} (hN : NOk M N) (hR : NRed N) (hM : M ≤ T) (h01 : ∀ l, 0 ≤ p l ∧ p l ≤ 1) (F : (Nat → Bool) → Bool) : ∀ k l pre a, l + k = T → pre.length = l → a < N.length + 2 → geL N l a → 0 ≤ massN p (asg pre) l → (∀ ext, F (asg (pre ++ ext)) = ev N (asg (pre ++ ext)) a) →
    fmx F p T k pre = if a = 0 then none else some (pre ++ (if massN p (asg pre) l * mxA N p k l a = 0 then lstB N k l a else grB N p k l a), massN p (asg pre) l * mxA N p k l a) := by
  intro k
  induction k with
  | zero =>
    intro l pre a hT hl ha hg hP hF
    have hlT : l = T := by omega
    subst hlT
    have h2 : a < 2 := by
      rcases Nat.lt_or_ge a 2 with h | h
      · exact h
      · have := hg h
        have := (hN a h ha).lv
        omega
    have e := hF []
    rw [List.append_nil, ev_one _ _ h2] at e
    unfold fmx
    rw [e]
    have h3 : a = 0 ∨ a = 1 := by omega
    rcases h3 with rfl | rfl
    · rfl
    · rw [if_pos (by rfl), if_neg (by decide)]
      show _ = some (pre ++ (if massN p (asg pre) l * (1 : Rat) = 0 then [] else []), massN p (asg pre) l * (1 : Rat))
      rw [ite_self, List.append_nil, Rat.mul_one]
  | succ k ih =>
    intro l pre a hT hl ha hg hP hF
    have st : ∀ v, fmx F p T k (pre ++ [v]) = if cofN N l v a = 0 then none else some (pre ++ [v] ++ (if massN p (asg pre) l * (if v = true then p l else 1 - p l) * mxA N p k (l + 1) (cofN N l v a) = 0 then lstB N k (l + 1) (cofN N l v a) else grB N p k (l + 1) (cofN N l v a)), massN p (asg pre) l * (if v = true then p l else 1 - p l) * mxA N p k (l + 1) (cofN N l v a)) := fun v => by
      obtain ⟨c1, c2⟩ := cof_lt hN v ha hg
      have em : massN p (asg (pre ++ [v])) (l + 1) = massN p (asg pre) l * (if v = true then p l else 1 - p l) := by rw [← hl]; exact mass_snoc p pre v
      have hnn : 0 ≤ massN p (asg (pre ++ [v])) (l + 1) := by
        rw [em]
        have := h01 l
        refine Rat.mul_nonneg hP ?_
        split <;> grind
      rw [ih (l + 1) (pre ++ [v]) (cofN N l v a) (by omega) (by rw [List.length_append, hl]; rfl) c1 c2 hnn fun ext => ?_, em]
      rw [List.append_assoc, hF, ev_cof hN (asg (pre ++ ([v] ++ ext))) (l := l) ha]
      congr 1
      rw [← hl]
      have : asg (pre ++ ([v] ++ ext)) pre.length = v := asg_mid
      rw [this]
    unfold fmx
    rw [st false, st true]
    clear st
    simp only [Bool.false_eq_true, if_false, if_true]
    have hm0 := (mxA_01 (N := N) h01 k (l + 1) (cofN N l false a)).1
    have hm1 := (mxA_01 (N := N) h01 k (l + 1) (cofN N l true a)).1
    have hq := h01 l
    have eA : mxA N p (k + 1) l a = mxR ((1 - p l) * mxA N p k (l + 1) (cofN N l false a)) (p l * mxA N p k (l + 1) (cofN N l true a)) := rfl
    have eL : lstB N (k + 1) l a = (if 2 ≤ a ∧ lvN N a = l then decide (loN N a = 0) else false) :: lstB N k (l + 1) (cofN N l (if 2 ≤ a ∧ lvN N a = l then decide (loN N a = 0) else false) a) := rfl
    have eG : grB N p (k + 1) l a = grV N p k l a :: grB N p k (l + 1) (cofN N l (grV N p k l a) a) := rfl
    have hx0 : 0 ≤ (1 - p l) * mxA N p k (l + 1) (cofN N l false a) := Rat.mul_nonneg (by grind) hm0
    have hx1 : 0 ≤ p l * mxA N p k (l + 1) (cofN N l true a) := Rat.mul_nonneg hq.1 hm1
    by_cases ha0 : a = 0
    · subst ha0
      rw [cof_skip _ (by omega), cof_skip _ (by omega)]
      rfl
    rw [if_neg ha0, eA, eL, eG]
    -- which bit the greedy way takes
    have gv : 0 < mxR ((1 - p l) * mxA N p k (l + 1) (cofN N l false a)) (p l * mxA N p k (l + 1) (cofN N l true a)) → grV N p k l a = decide ((1 - p l) * mxA N p k (l + 1) (cofN N l false a) < p l * mxA N p k (l + 1) (cofN N l true a)) := fun hpos => by
      unfold grV
      by_cases h : 2 ≤ a ∧ lvN N a = l
      · rw [if_pos h, cof_at _ h.1 h.2, cof_at _ h.1 h.2]; rfl
      · rw [if_neg h, cof_skip _ h, cof_skip _ h]
        rw [cof_skip _ h, cof_skip _ h, mxR_mul (by rw [cof_skip _ h] at hm0; exact hm0)] at hpos
        rw [cof_skip _ h] at hm0
        have hm : 0 < mxA N p k (l + 1) a := by
          have : mxA N p k (l + 1) a ≠ 0 := fun z => by rw [z, Rat.zero_mul] at hpos; exact absurd hpos (by decide)
          grind
        refine decide_eq_decide.mpr ⟨fun h => ?_, fun h => ?_⟩
        · have := rmul_pos (show 0 < p l - (1 - p l) by grind) hm
          grind
        · by_cases h3 : 1 - p l < p l
          · exact h3
          · exfalso
            have : 0 ≤ (1 - p l - p l) * mxA N p k (l + 1) a := Rat.mul_nonneg (by grind) (by grind)
            grind
    generalize hP' : massN p (asg pre) l = Pm at hP ⊢
    clear hP'
    by_cases c0 : cofN N l false a = 0
    · -- nothing below the low side
      have hnode : 2 ≤ a ∧ lvN N a = l := by
        by_cases h : 2 ≤ a ∧ lvN N a = l
        · exact h
        · rw [cof_skip _ h] at c0; exact absurd c0 ha0
      have hlo : loN N a = 0 := by rw [cof_at _ hnode.1 hnode.2] at c0; exact c0
      have c1 : cofN N l true a ≠ 0 := by
        rw [cof_at _ hnode.1 hnode.2]
        have := lh_ne hR hnode.1 ha
        rw [hlo] at this
        exact fun z => this z.symm
      rw [c0, if_pos rfl, if_neg c1, cmb_none, mxA_zero, Rat.mul_zero]
      have em : mxR 0 (p l * mxA N p k (l + 1) (cofN N l true a)) = p l * mxA N p k (l + 1) (cofN N l true a) := by
        unfold mxR; split <;> grind
      rw [em, if_pos hnode, hlo, ← Rat.mul_assoc]
      rw [c0, mxA_zero, Rat.mul_zero, em] at gv
      congr 2
      by_cases hz : Pm * p l * mxA N p k (l + 1) (cofN N l true a) = 0
      · rw [if_pos hz, if_pos hz, List.append_assoc]; rfl
      · rw [if_neg hz, if_neg hz, List.append_assoc]
        have hpos : 0 < p l * mxA N p k (l + 1) (cofN N l true a) := by
          have : p l * mxA N p k (l + 1) (cofN N l true a) ≠ 0 := fun z => hz (by rw [Rat.mul_assoc, z, Rat.mul_zero])
          grind
        rw [gv hpos, decide_eq_true hpos]; rfl
    · rw [if_neg c0]
      have lv0 : (if 2 ≤ a ∧ lvN N a = l then decide (loN N a = 0) else false) = false := by
        by_cases h : 2 ≤ a ∧ lvN N a = l
        · rw [if_pos h]
          rw [cof_at _ h.1 h.2] at c0
          exact decide_eq_false c0
        · rw [if_neg h]
      rw [lv0]
      by_cases c1 : cofN N l true a = 0
      · rw [c1, if_pos rfl, mxA_zero, Rat.mul_zero]
        rw [c1, mxA_zero, Rat.mul_zero] at gv
        have em : mxR ((1 - p l) * mxA N p k (l + 1) (cofN N l false a)) 0 = (1 - p l) * mxA N p k (l + 1) (cofN N l false a) := by
          unfold mxR; rw [if_pos hx0]
        rw [em] at gv ⊢
        rw [← Rat.mul_assoc]
        show some _ = some _
        congr 2
        by_cases hz : Pm * (1 - p l) * mxA N p k (l + 1) (cofN N l false a) = 0
        · rw [if_pos hz, if_pos hz, List.append_assoc]; rfl
        · rw [if_neg hz, if_neg hz, List.append_assoc]
          have hpos : 0 < (1 - p l) * mxA N p k (l + 1) (cofN N l false a) := by
            have : (1 - p l) * mxA N p k (l + 1) (cofN N l false a) ≠ 0 := fun z => hz (by rw [Rat.mul_assoc, z, Rat.mul_zero])
            grind
          rw [gv hpos, decide_eq_false (by grind)]; rfl
      · rw [if_neg c1]
        generalize hA : mxA N p k (l + 1) (cofN N l false a) = m0 at *
        generalize hB : mxA N p k (l + 1) (cofN N l true a) = m1 at *
        have e0 : Pm * (1 - p l) * m0 = Pm * ((1 - p l) * m0) := Rat.mul_assoc _ _ _
        have e1 : Pm * p l * m1 = Pm * (p l * m1) := Rat.mul_assoc _ _ _
        rw [e0, e1]
        clear e0 e1
        generalize (1 - p l) * m0 = x at *
        generalize p l * m1 = y at *
        show (if Pm * x < Pm * y then _ else _) = _
        by_cases hp0 : Pm = 0
        · subst hp0
          rw [Rat.zero_mul, Rat.zero_mul, Rat.zero_mul, if_neg (by decide), if_pos rfl, if_pos rfl, List.append_assoc]; rfl
        · have hpp : 0 < Pm := by grind
          by_cases hxy : x < y
          · have hlt : Pm * x < Pm * y := by have := rmul_pos hpp (show 0 < y - x by grind); grind
            have em : mxR x y = y := by unfold mxR; rw [if_neg (by grind)]
            have hy0 : Pm * y ≠ 0 := by have := rmul_pos hpp (show 0 < y by grind); grind
            rw [if_pos hlt, em, if_neg hy0, if_neg hy0, gv (by rw [em]; grind), decide_eq_true hxy, List.append_assoc]; rfl
          · have hlt : ¬ Pm * x < Pm * y := by
              have : 0 ≤ Pm * (x - y) := Rat.mul_nonneg (by grind) (by grind)
              grind
            have em : mxR x y = x := by unfold mxR; rw [if_pos (by grind)]
            rw [if_neg hlt, em]
            by_cases hz : Pm * x = 0
            · rw [if_pos hz, if_pos hz, List.append_assoc]; rfl
            · have hx : 0 < x := by
                have : x ≠ 0 := fun z => hz (by rw [z, Rat.mul_zero])
                grind
              rw [if_neg hz, if_neg hz, gv (by rw [em]; exact hx), decide_eq_false hxy, List.append_assoc]; rfl
/-- the law's best: none, or the first of the best -/
theorem bst_eq {M T : Nat} {N : List K3} {p : Nat → Rat} (hN : NOk M N) (hR : NRed N) (hM : M ≤ T) (h01 : ∀ l, 0 ≤ p l ∧ p l ≤ 1) {a : Nat} (ha : a < N.length + 2) :
    bst (fun β => ev N β a) p T (2 ^ T) = if a = 0 then none else some (if mxA N p T 0 a = 0 then lstB N T 0 a else grB N p T 0 a, mxA N p T 0 a) := by
  rw [bst_all, fmx_eq hN hR hM h01 (fun β => ev N β a) T 0 [] a (by omega) rfl ha (fun _ => Nat.zero_le _) (by show (0 : Rat) ≤ 1; decide) fun _ => rfl]
  show (if a = 0 then none else some ([] ++ (if 1 * mxA N p T 0 a = 0 then _ else _), 1 * mxA N p T 0 a)) = _
  rw [Rat.one_mul]; rfl

end
section
local macro_rules | `(tactic| walk_at "flk") => `(tactic| first | exact stF_lv _ | exact stF_lo _ | exact stF_hi _ | exact stF_nd _ | exact stF_ch _)
local macro_rules | `(tactic| walk_at "len") => `(tactic| first | omega | (simp only [Sto.lvs, Sto.los, Sto.his, List.length_map, ndD, ndG_len, chD, List.length_append, List.length_cons, List.length_nil]; omega))
local macro_rules | `(tactic| walk_at "ixl") => `(tactic| first | rfl | (refine lvs_at ?_ ?_ <;> omega) | (refine los_at ?_ ?_ <;> omega) | (refine his_at ?_ ?_ <;> omega))

/-! ### the best masses, walked -/
local macro_rules | `(tactic| walk_at "as") => `(tactic| first
  | ((with_reducible show AS _ _ (Stmt.Raise (some _) none _) _ _ _); refine' as_raise (by assumption) (XD.calm (by assumption)) ?_))
section
variable {P : Program} {w : World} {K : PySem.W.Frag} {mg : Str → Option Value} {base : Heap} {C CE : Addr}
def cmpR (a b : Rat) : Int := if a < b then -1 else if b < a then 1 else 0
def spCmp : ASp := pur fun xs q => ∃ a b : Rat, xs = [.d (dR a), .d (dR b)] ∧ RB a ∧ RB b ∧ q (.i (cmpR a b))
theorem mon_cmp : Mon spCmp := mon_pur fun xs q q' h ⟨a, b, h1, h2, h3, k⟩ => ⟨a, b, h1, h2, h3, h _ k⟩
theorem rat_dif (a b : Rat) : (a.num * (b.den : Int) - b.num * (a.den : Int) < 0 ↔ a < b) ∧ (0 < a.num * (b.den : Int) - b.num * (a.den : Int) ↔ b < a) := by
  have h1 := Rat.lt_iff a b
  have h2 := Rat.lt_iff b a
  constructor
  · rw [h1]; omega
  · rw [h2]; omega
theorem cmp_pos (a b : Rat) : decide (0 < cmpR a b) = decide (b < a) := by
  unfold cmpR
  by_cases h1 : a < b
  · rw [if_pos h1, decide_eq_false (by omega), decide_eq_false (by grind)]
  · rw [if_neg h1]
    by_cases h2 : b < a
    · rw [if_pos h2, decide_eq_true (by omega), decide_eq_true h2]
    · rw [if_neg h2, decide_eq_false (by omega), decide_eq_false h2]
theorem cmp_nn (a b : Rat) : decide (0 ≤ cmpR a b) = decide (b ≤ a) := by
  unfold cmpR
  by_cases h1 : a < b
  · rw [if_pos h1, decide_eq_false (by omega), decide_eq_false (by grind)]
  · rw [if_neg h1]
    by_cases h2 : b < a
    · rw [if_pos h2, decide_eq_true (by omega), decide_eq_true (by grind)]
    · rw [if_neg h2, decide_eq_true (by omega), decide_eq_true (by grind)]
theorem c_compare (d : Df K mg "compare" s_compare ["a", "b"]) : Cal P w K mg base 1 "compare" ["a", "b"] spCmp := d.cal mon_cmp fun f fd F => by
  refine okA F sc_compare lc_compare (fun xs R q e h => ?_) ?_
  · obtain ⟨rfl, a, b, rfl, _⟩ := h; rfl
  rintro X hX hU hr ⟨cdv, Ar, outer, s, H, E, rfl⟩ xs R post exc ⟨rfl, a, b, rfl, ha, hb, k⟩
  have a1 := ha.n
  have a2 := ha.d
  have b1 := hb.n
  have b2 := hb.d
  obtain ⟨e1, e2⟩ := rat_dif a b
  unfold cmpR at k
  show ASs _ _ (defBody s_compare) [("a", some (.d (dR a))), ("b", some (.d (dR b))), ("difference", none)] _ _
  walk_at "go"
  refine ⟨fun h => ?_, fun h => ?_⟩
  · have h := e1.mp (of_decide_eq_true h)
    rw [if_pos h] at k
    walk_at "go"
    exact ⟨_, Le.refl _, k⟩
  · have h := mt e1.mpr (of_decide_eq_false h)
    rw [if_neg h] at k
    walk_at "go"
    refine ⟨fun h2 => ?_, fun h2 => ?_⟩
    · have h2 := e2.mp (of_decide_eq_true h2)
      rw [if_pos h2] at k
      walk_at "go"
      exact ⟨_, Le.refl _, k⟩
    · have h2 := mt e2.mpr (of_decide_eq_false h2)
      rw [if_neg h2] at k
      walk_at "go"
      exact ⟨_, Le.refl _, k⟩
theorem RB.rest {q : Rat} (h : RB q) (h01 : 0 ≤ q ∧ q ≤ 1) : RB (1 - q) := RB.of (IntD.den q).one_sub (one_sub01 h01).1 (one_sub01 h01).2 q.den_pos h.2
def btR (q : Rat) : Rat := if 1 - q < q then q else 1 - q
def spBetter : ASp := pur fun xs q => ∃ a : Rat, xs = [.d (dR a)] ∧ RB a ∧ (0 ≤ a ∧ a ≤ 1) ∧ q (.d (dR (btR a)))
theorem mon_better : Mon spBetter := mon_pur fun xs q q' h ⟨a, h1, h2, h3, k⟩ => ⟨a, h1, h2, h3, h _ k⟩
theorem c_better (d : Df K mg "better" s_better ["chance"]) (m1 : Cal P w K mg base 3 "rest" ["r"] (sp1R fun a => 1 - a)) (m2 : Cal P w K mg base 1 "compare" ["a", "b"] spCmp) : Cal P w K mg base 4 "better" ["chance"] spBetter := d.cal mon_better fun f fd F => by
  refine okA F sc_better lc_better (fun xs R q e h => ?_) ?_
  · obtain ⟨rfl, a, rfl, _⟩ := h; rfl
  rintro X hX hU hr ⟨cdv, Ar, outer, s, H, E, rfl⟩ xs R post exc ⟨rfl, a, rfl, ha, h01, k⟩
  show ASs _ _ (defBody s_better) [("chance", some (.d (dR a))), ("other", none)] _ _
  unfold btR at k
  walk_at "go"
  refine ⟨a, rfl, ha, ?_⟩
  walk_at "go"
  refine ⟨a, 1 - a, rfl, ha, ha.rest h01, ?_⟩
  walk_at "go"
  rw [cmp_pos]
  refine ⟨fun h => ?_, fun h => ?_⟩
  · have h := of_decide_eq_true h
    rw [if_pos h] at k
    walk_at "go"
    exact ⟨_, Le.refl _, k⟩
  · have h := of_decide_eq_false h
    rw [if_neg h] at k
    walk_at "go"
    exact ⟨_, Le.refl _, k⟩
/-- the better chances' products, from each level on -/
def frL (cs : List Rat) : List PyData := (List.range (cs.length + 1)).map fun j => dR (fr (pAt cs) (cs.length - j) j)
theorem frL_at {cs : List Rat} {l : Nat} (h : l ≤ cs.length) : atI (frL cs) (l : Int) = some (dR (fr (pAt cs) (cs.length - l) l)) := by
  refine atI_nat ?_
  unfold frL
  rw [List.getElem?_map, List.getElem?_range (by omega)]; rfl
/-- chances whose denominators are small -/
structure ChS (cs : List Rat) : Prop where
  c01 : ∀ l, 0 ≤ pAt cs l ∧ pAt cs l ≤ 1
  len : cs.length ≤ 1000
  sm : ∀ k l, dpr cs k l < 2 ^ 4000
  rb : ∀ l, RB (pAt cs l)
theorem ChS.fr {cs : List Rat} (h : ChS cs) (k l : Nat) : RB (AL.fr (pAt cs) k l) := RB.of (fr_D k l) (fr_01 h.c01 k l).1 (fr_01 h.c01 k l).2 (dpr_pos cs k l) (h.sm k l)
theorem ChS.mx {cs : List Rat} (h : ChS cs) (N : List K3) (k l a : Nat) : RB (mxA N (pAt cs) k l a) := RB.of (mxA_D k l a) (mxA_01 h.c01 k l a).1 (mxA_01 h.c01 k l a).2 (dpr_pos cs k l) (h.sm k l)
def spGap : ASp := pur fun xs q => ∃ (cs : List Rat) (l m : Nat), xs = [.l (frL cs), .i l, .i m] ∧ l ≤ cs.length ∧ m ≤ cs.length ∧ ChS cs ∧ q (.d (dR (fr (pAt cs) (cs.length - l) l / fr (pAt cs) (cs.length - m) m)))
theorem mon_gap : Mon spGap := mon_pur fun xs q q' h ⟨cs, l, m, h1, h2, h3, h4, k⟩ => ⟨cs, l, m, h1, h2, h3, h4, h _ k⟩
theorem c_gap (d : Df K mg "gap" s_gap ["free", "level", "below"]) (m1 : Cal P w K mg base 2 "over" ["a", "b"] spOver) : Cal P w K mg base 3 "gap" ["free", "level", "below"] spGap := d.cal mon_gap fun f fd F => by
  refine okA F sc_gap lc_gap (fun xs R q e h => ?_) ?_
  · obtain ⟨rfl, cs, l, m, rfl, _⟩ := h; rfl
  rintro X hX hU hr ⟨cdv, Ar, outer, s, H, E, rfl⟩ xs R post exc ⟨rfl, cs, l, m, rfl, hl, hm, hc, k⟩
  show ASs _ _ (defBody s_gap) [("free", some (.l (frL cs))), ("level", some (.i l)), ("below", some (.i m))] _ _
  walk_at "go"
  refine ia_l (frL_at hl) ?_
  walk_at "go"
  refine ia_l (frL_at hm) ?_
  walk_at "go"
  exact ⟨_, _, rfl, hc.fr _ _, hc.fr _ _, fr_pos _ _ _, [], Le.refl _, k⟩
/-- the best masses that are known -/
def bF (N : List K3) (cs : List Rat) (b : Nat) : Rat := mxA N (pAt cs) (cs.length - lvN N b) (lvN N b) b
def rD (f : Nat → Rat) (ks : List Nat) : List (Key × A) := ks.map fun b : Nat => (Sum.inl (b : Int), A.d (dR (f b)))
theorem rD_lk (f : Nat → Rat) (b : Nat) : ∀ ks : List Nat, lkA (rD f ks) (Sum.inl (b : Int)) = if b ∈ ks then some (A.d (dR (f b))) else none
  | [] => by simp [rD, lkA]
  | c :: r => by
    rw [show rD f (c :: r) = (Sum.inl (c : Int), A.d (dR (f c))) :: rD f r from rfl, lkA_cons, rD_lk f b r]
    by_cases h : c = b
    · subst h; simp
    · have h1 : ¬ ((Sum.inl (c : Int) : Key) = Sum.inl (b : Int)) := fun e => h (by have := Sum.inl.inj e; omega)
      rw [if_neg h1]
      by_cases h2 : b ∈ r
      · rw [if_pos h2, if_pos (List.mem_cons_of_mem _ h2)]
      · rw [if_neg h2, if_neg (fun z => (List.mem_cons.mp z).elim (fun q => h q.symm) h2)]
theorem rD_put {f : Nat → Rat} {ks : List Nat} {b : Nat} (hb : b ∉ ks) : putA (rD f ks) (Sum.inl (b : Int)) (A.d (dR (f b))) = rD f (ks ++ [b]) := by
  rw [putA_new _ (by rw [rD_lk, if_neg hb])]
  unfold rD; rw [List.map_append]; rfl
abbrev BsR (C : Addr) (a : Sad) (S : Sto) (kd : Addr) (cs : List Rat) (ks : List Nat) : RL := Sto.rx C a S [(kd, .dK (rD (bF S.N cs) ks))]
def spSide (C : Addr) : ASp := fun xs R post _ => ∃ (a : Sad) (S : Sto) (M x l : Nat) (cs : List Rat) (kd : Addr) (ks : List Nat), xs = [.ptr a.s, .i x, .i l, .l (frL cs), .ptr kd] ∧ R = BsR C a S kd cs ks ∧ NOk M S.N ∧ M ≤ cs.length ∧ x < S.N.length + 2 ∧ l ≤ cs.length ∧ geL S.N l x ∧ (2 ≤ x → x ∈ ks) ∧ ChS cs ∧
  post (.d (dR (mxA S.N (pAt cs) (cs.length - l) l x))) (BsR C a S kd cs ks)
theorem mon_side (C : Addr) : Mon (spSide C) := fun xs R p p' e e' h _ ⟨a, S, M, x, l, cs, kd, ks, h1, h2, h3, h4, h5, h6, h7, h8, h9, k⟩ => ⟨a, S, M, x, l, cs, kd, ks, h1, h2, h3, h4, h5, h6, h7, h8, h9, h _ _ k⟩
theorem c_side (d : Df K mg "side" s_side ["store", "a", "level", "free", "best"]) (cF : Cst K mg "FALSE" (.int 0)) (cT : Cst K mg "TRUE" (.int 1)) (cZ : Cst K mg "ZERO" (.tuple [.int 0, .int 1])) (m1 : Mcal P w K mg base 1 C "level" ["self", "a"] (spGet C lvN)) (m2 : Cal P w K mg base 3 "gap" ["free", "level", "below"] spGap) (m3 : Cal P w K mg base 2 "times" ["a", "b"] (sp2R (· * ·))) :
    Cal P w K mg base 4 "side" ["store", "a", "level", "free", "best"] (spSide C) := d.cal (mon_side C) fun f fd F => by
  refine okA F sc_side lc_side (fun xs R q e h => ?_) ?_
  · obtain ⟨a, S, M, x, l, cs, kd, ks, rfl, _⟩ := h; rfl
  rintro X hX hU hr ⟨cdv, Ar, outer, s, H, E, rfl⟩ xs R post exc ⟨a, S, M, x, l, cs, kd, ks, rfl, rfl, hN, hM, hx, hl, hg, hk, hc, kont⟩
  show ASs _ _ (defBody s_side) [("store", some (.ptr a.s)), ("a", some (.i x)), ("level", some (.i l)), ("free", some (.l (frL cs))), ("best", some (.ptr kd))] _ _
  walk_at "go"
  refine ⟨fun h0 => ?_, fun h0 => ?_⟩
  · have h0 : x = 0 := by have := of_decide_eq_true h0; omega
    subst h0
    rw [mxA_zero] at kont
    walk_at "go"
    exact ⟨_, Le.refl _, kont⟩
  have h0 : x ≠ 0 := by have := of_decide_eq_false h0; omega
  walk_at "go"
  refine ⟨fun h1 => ?_, fun h1 => ?_⟩
  · have h1 : x = 1 := by have := of_decide_eq_true h1; omega
    subst h1
    rw [mxA_one hc.c01] at kont
    walk_at "go"
    refine ia_l (frL_at hl) ?_
    exact ⟨_, Le.refl _, kont⟩
  have h2 : 2 ≤ x := by have := of_decide_eq_false h1; omega
  have hlv := (hN x h2 hx).lv
  walk_at "go"
  refine ⟨Sto.rs C a S, _, by walk_at "spl", a, S, x, rfl, rfl, h2, hx, ?_⟩
  show AEs _ _ _ _ (BsR C a S kd cs ks) _
  walk_at "go"
  refine ⟨cs, l, lvN S.N x, rfl, hl, by omega, hc, ?_⟩
  walk_at "go"
  refine ia_dK hU (ky := .inl (x : Int)) (.there (.there (.there (.there (.there (.there .here)))))) rfl (by rw [rD_lk, if_pos (hk h2)]) ?_
  walk_at "go"
  have e := side_node (N := S.N) hc.c01 (T := cs.length) h2 (hg h2) (show lvN S.N x ≤ cs.length by omega) rfl
  have rg : RB (fr (pAt cs) (cs.length - l) l / fr (pAt cs) (cs.length - lvN S.N x) (lvN S.N x)) := by
    have f := fr_add (pAt cs) (cs.length - lvN S.N x) (lvN S.N x - l) l
    have g := hg h2
    rw [show lvN S.N x - l + (cs.length - lvN S.N x) = cs.length - l by omega, show l + (lvN S.N x - l) = lvN S.N x by omega] at f
    have hp := fr_pos (pAt cs) (cs.length - lvN S.N x) (lvN S.N x)
    rw [f, Rat.mul_div_cancel (by intro z; rw [z] at hp; exact absurd hp (by decide))]
    exact hc.fr _ _
  refine ⟨_, _, rfl, rg, hc.mx _ _ _ _, _, Le.refl _, ?_⟩
  show post (.d (dR (fr (pAt cs) (cs.length - l) l / fr (pAt cs) (cs.length - lvN S.N x) (lvN S.N x) * mxA S.N (pAt cs) (cs.length - lvN S.N x) (lvN S.N x) x))) _
  rw [e]
  exact kont
end

end
section
local macro_rules | `(tactic| walk_at "flk") => `(tactic| first | exact stF_lv _ | exact stF_lo _ | exact stF_hi _ | exact stF_nd _ | exact stF_ch _)
local macro_rules | `(tactic| walk_at "len") => `(tactic| first | omega | (simp only [Sto.lvs, Sto.los, Sto.his, List.length_map, ndD, ndG_len, chD, List.length_append, List.length_cons, List.length_nil]; omega))
local macro_rules | `(tactic| walk_at "ixl") => `(tactic| first | rfl | (refine lvs_at ?_ ?_ <;> omega) | (refine los_at ?_ ?_ <;> omega) | (refine his_at ?_ ?_ <;> omega))

/-! ### the best masses of all nodes; the bits -/
local macro_rules | `(tactic| walk_at "as") => `(tactic| first
  | ((with_reducible show AS _ _ (Stmt.Raise (some _) none _) _ _ _); refine' as_raise (by assumption) (XD.calm (by assumption)) ?_))
section
variable {P : Program} {w : World} {K : PySem.W.Frag} {mg : Str → Option Value} {base : Heap} {C CE : Addr}
theorem spl_self : ∀ R : RL, Spl R R []
  | [] => .nil
  | _ :: R => .cons .here (spl_self R)
theorem fsp_all {sp : ASp} (mon : Mon sp) {xs : List A} {R : RL} {post : A → RL → Prop} {exc : Value → Option Addr → RL → Prop} (h : sp xs R post exc) : FSp sp xs R post exc :=
  ⟨R, [], spl_self R, mon _ _ _ _ _ _ (fun x R' q => by rw [List.append_nil]; exact q) (fun c d R' q => by rw [List.append_nil]; exact q) h⟩
theorem ChS.low {cs : List Rat} (h : ChS cs) (N : List K3) (k l a : Nat) : RB ((1 - pAt cs l) * mxA N (pAt cs) k (l + 1) a) :=
  have m := mul01 (one_sub01 (h.c01 l)) (mxA_01 (N := N) h.c01 k (l + 1) a)
  RB.of (D := dpr cs (k + 1) l) ((IntD.den _).one_sub.mul (mxA_D _ _ _)) m.1 m.2 (dpr_pos cs _ _) (h.sm _ _)
theorem ChS.high {cs : List Rat} (h : ChS cs) (N : List K3) (k l a : Nat) : RB (pAt cs l * mxA N (pAt cs) k (l + 1) a) :=
  have m := mul01 (h.c01 l) (mxA_01 (N := N) h.c01 k (l + 1) a)
  RB.of (D := dpr cs (k + 1) l) ((IntD.den _).mul (mxA_D _ _ _)) m.1 m.2 (dpr_pos cs _ _) (h.sm _ _)
theorem bF_node {N : List K3} {cs : List Rat} {b : Nat} (h2 : 2 ≤ b) (hl : lvN N b < cs.length) : bF N cs b = mxR ((1 - pAt cs (lvN N b)) * mxA N (pAt cs) (cs.length - (lvN N b + 1)) (lvN N b + 1) (loN N b)) (pAt cs (lvN N b) * mxA N (pAt cs) (cs.length - (lvN N b + 1)) (lvN N b + 1) (hiN N b)) := by
  unfold bF
  rw [show cs.length - lvN N b = (cs.length - (lvN N b + 1)) + 1 by omega]
  show mxR (_ * mxA _ _ _ _ (cofN N (lvN N b) false b)) (_ * mxA _ _ _ _ (cofN N (lvN N b) true b)) = _
  rw [cof_at _ h2 rfl, cof_at _ h2 rfl]; rfl
def frUp (cs : List Rat) (i : Nat) : List A := (List.range (i + 1)).map fun j => A.d (dR (fr (pAt cs) j (cs.length - j)))
theorem frUp_rev (cs : List Rat) : (frUp cs cs.length).reverse = (frL cs).map A.d := by
  refine List.ext_getElem? fun j => ?_
  unfold frUp frL
  rw [← List.map_reverse, List.getElem?_map, List.map_map, List.getElem?_map]
  by_cases h : j < cs.length + 1
  · rw [List.getElem?_reverse (by rw [List.length_range]; exact h), List.length_range, List.getElem?_range (by omega), List.getElem?_range h]
    show some (A.d (dR (fr (pAt cs) (cs.length + 1 - 1 - j) (cs.length - (cs.length + 1 - 1 - j))))) = some (A.d (dR (fr (pAt cs) (cs.length - j) j)))
    rw [show cs.length + 1 - 1 - j = cs.length - j by omega, show cs.length - (cs.length - j) = j by omega]
  · rw [List.getElem?_eq_none (by rw [List.length_reverse, List.length_range]; omega), List.getElem?_eq_none (by rw [List.length_range]; omega)]; rfl
theorem frUp_snoc (cs : List Rat) (i : Nat) : frUp cs (i + 1) = frUp cs i ++ [A.d (dR (fr (pAt cs) (i + 1) (cs.length - (i + 1))))] := by
  unfold frUp; rw [List.range_succ, List.map_append]; rfl
theorem frUp_last (cs : List Rat) (i : Nat) : atI (frUp cs i) (-1) = some (A.d (dR (fr (pAt cs) i (cs.length - i)))) := by
  unfold frUp; rw [List.range_succ, List.map_append]; exact atI_last _ _
def spBestM (C : Addr) : ASp := fun xs R post _ => ∃ (a : Sad) (S : Sto) (M x : Nat) (cs : List Rat), xs = [.ptr a.s, .i x, .l (cs.map dR)] ∧ R = Sto.rs C a S ∧ NOk M S.N ∧ M ≤ cs.length ∧ x < S.N.length + 2 ∧ S.N.length < 1000000 ∧ ChS cs ∧
  ∀ (kd : Addr) (bs : List Nat), BelR S.N x bs → post (.tp [.ptr kd, .d (.list (frL cs))]) (BsR C a S kd cs bs)
theorem mon_bestM (C : Addr) : Mon (spBestM C) := fun xs R p p' e e' h _ ⟨a, S, M, x, cs, h1, h2, h3, h4, h5, h6, h7, k⟩ => ⟨a, S, M, x, cs, h1, h2, h3, h4, h5, h6, h7, fun kd bs z => h _ _ (k kd bs z)⟩
theorem c_best_masses (d : Df K mg "best_masses" s_best_masses ["store", "a", "chances"]) (bR : mg "reversed" = none) (cO : Cst K mg "ONE" (.tuple [.int 1, .int 1])) (m1 : Cal P w K mg base 4 "better" ["chance"] spBetter) (m2 : Cal P w K mg base 2 "times" ["a", "b"] (sp2R (· * ·))) (m3 : Mcal P w K mg base 1 C "nodes_below" ["self", "a"] (spBelow C)) (m4 : Mcal P w K mg base 1 C "level" ["self", "a"] (spGet C lvN)) (m5 : Mcal P w K mg base 1 C "low" ["self", "a"] (spGet C loN)) (m6 : Mcal P w K mg base 1 C "high" ["self", "a"] (spGet C hiN))
    (m7 : Cal P w K mg base 3 "rest" ["r"] (sp1R fun a => 1 - a)) (m8 : Cal P w K mg base 4 "side" ["store", "a", "level", "free", "best"] (spSide C)) (m9 : Cal P w K mg base 1 "compare" ["a", "b"] spCmp) : Cal P w K mg base 5 "best_masses" ["store", "a", "chances"] (spBestM C) := d.cal (mon_bestM C) fun f fd F => by
  refine okA F sc_best_masses lc_best_masses (fun xs R q e h => ?_) ?_
  · obtain ⟨a, S, M, x, cs, rfl, _⟩ := h; rfl
  rintro X hX hU hr ⟨cdv, Ar, outer, s, H, E, rfl⟩ xs R post exc ⟨a, S, M, x, cs, rfl, rfl, hN, hM, hx, hs, hc, kont⟩
  show ASs _ _ (defBody s_best_masses) [("store", some (.ptr a.s)), ("a", some (.i x)), ("chances", some (.l (cs.map dR))), ("free", none), ("chance", none), ("best", none), ("b", none), ("level", none), ("low", none), ("high", none)] _ _
  have hsz : 2000000 < sizeLine := by decide
  have hcl := hc.len
  walk_at "go"
  refine ⟨by show 1 ≤ sizeLine; decide, fun fp => ?_⟩
  walk_at "go"
  refine as_for (fun i δ R => ∃ (v1 : Option AL.A), i ≤ cs.length ∧ δ = ([("store", some (.ptr a.s)), ("a", some (.i x)), ("chances", some (.l (cs.map dR))), ("free", some (.ptr fp)), ("chance", v1), ("best", none), ("b", none), ("level", none), ("low", none), ("high", none)] : SL) ∧ R = (fp, .lst (frUp cs i)) :: Sto.rs C a S) hX ?_
  refine ai_rev bR ?_
  walk_at "go"
  refine ⟨_, rfl, Wk.self ⟨none, Nat.zero_le _, rfl, rfl⟩, fun _ _ _ _ => trivial, ?_, ?_⟩
  · rintro i c δ R hi0 ⟨v1, hin, rfl, rfl⟩
    have hi : i < cs.length := by
      have := (List.getElem?_eq_some_iff.mp hi0).1
      rw [List.length_map, List.length_reverse, List.length_map] at this; exact this
    rw [List.getElem?_map, List.getElem?_reverse (by rw [List.length_map]; exact hi), List.length_map, List.getElem?_map, List.getElem?_eq_getElem (show cs.length - 1 - i < cs.length by omega)] at hi0
    have ec : cs[cs.length - 1 - i]'(by omega) = pAt cs (cs.length - (i + 1)) := by
      unfold pAt
      rw [show cs.length - (i + 1) = cs.length - 1 - i by omega, List.getD_eq_getElem?_getD, List.getElem?_eq_getElem (show cs.length - 1 - i < cs.length by omega)]; rfl
    rw [ec] at hi0
    obtain rfl := Option.some.inj hi0
    have hfl : (frUp cs i).length = i + 1 := by unfold frUp; rw [List.length_map, List.length_range]
    walk_at "go"
    refine ia_lst .here (frUp_last cs i) ?_
    walk_at "go"
    refine ⟨_, rfl, hc.rb _, hc.c01 _, ?_⟩
    walk_at "go"
    have rbb : RB (btR (pAt cs (cs.length - (i + 1)))) := by
      unfold btR; split
      · exact hc.rb _
      · exact (hc.rb _).rest (hc.c01 _)
    refine ⟨_, _, rfl, hc.fr _ _, rbb, ?_⟩
    have et : fr (pAt cs) i (cs.length - i) * btR (pAt cs (cs.length - (i + 1))) = fr (pAt cs) (i + 1) (cs.length - (i + 1)) := by
      show _ = fr (pAt cs) i (cs.length - (i + 1) + 1) * bt (pAt cs) (cs.length - (i + 1))
      rw [show cs.length - (i + 1) + 1 = cs.length - i by omega]; rfl
    show AEs _ _ _ _ _ _
    walk_at "go"
    refine Wk.self ⟨_, by omega, rfl, ?_⟩
    rw [frUp_snoc, ← et]
  · rintro δ R ⟨v1, hin, rfl, rfl⟩
    have elen : ((cs.map dR).reverse.map A.d).length = cs.length := by rw [List.length_map, List.length_reverse, List.length_map]
    rw [elen]
    walk_at "go"
    refine ae_bmL0 PySem.F.slot_list_reverse PySem.F.type_list_reverse ?_
    walk_at "go"
    refine ma_reverse .here ?_
    rw [frUp_rev]
    show ASs _ _ _ _ _ _
    refine as_fz (.there (.there (.there (.here)))) (.there (.there (.there (.here)))) .here (AsD.map _) hX.nd ?_
    walk_at "go"
    refine ae_dnewK fun kd => ?_
    walk_at "go"
    refine as_forX (fun xs i δ R => ∃ (bs : List Nat) (v1 v2 v3 v4 v5 : Option AL.A), xs = (bs.map fun b : Nat => A.i b) ∧ BelR S.N x bs ∧ δ = ([("store", some (.ptr a.s)), ("a", some (.i x)), ("chances", some (.l (cs.map dR))), ("free", some (.l (frL cs))), ("chance", v1), ("best", some (.ptr kd)), ("b", v2), ("level", v3), ("low", v4), ("high", v5)] : SL) ∧ R = BsR C a S kd cs (bs.take i)) hX ?_
    refine ai_l (ae_fz ?_)
    refine ae_meth m3 hr (by decide) ?_
    walk_at "go"
    apply fsp_of (R0 := Sto.rs C a S)
    · walk_at "spl"
    refine ⟨a, S, M, x, rfl, rfl, hN, hx, by omega, fun q bs hBs => ⟨q, _, _, _, rfl, .here, AsD.nats bs, ?_⟩⟩
    have emap : (bs.map fun v : Nat => PyData.int v).map A.d = bs.map fun b : Nat => A.i b := by rw [List.map_map]; rfl
    refine ⟨_, rfl, ?_⟩
    rw [emap]
    refine ⟨Wk.self ⟨bs, _, none, none, none, none, rfl, hBs, rfl, rfl⟩, fun _ _ _ _ => trivial, ?_, ?_⟩
    · rintro i v δ R hi0 ⟨bs2, v1, v2, v3, v4, v5, e, hB2, rfl, rfl⟩
      obtain rfl := nats_inj e
      rw [List.getElem?_map] at hi0
      obtain ⟨b, hi, rfl⟩ := Option.map_eq_some_iff.mp hi0
      have hbm := List.mem_of_getElem? hi
      obtain ⟨hb2, hbl⟩ := hBs.rg b hbm
      have okb := hN b hb2 hbl
      have olv := okb.lv
      have olo := okb.lo
      have ohi := okb.hi
      have kin : ∀ c, c < b → (2 ≤ c → c ∈ bs) → 2 ≤ c → c ∈ bs.take i := fun c hc h2 q => asc_before hBs.asc hi (h2 q) hc
      have klo := kin _ olo (hBs.cl b hbm).1
      have khi := kin _ ohi (hBs.cl b hbm).2
      have hnb : b ∉ bs.take i := fun z => by
        obtain ⟨j, hj⟩ := List.mem_iff_getElem?.mp z
        have hji : j < i := by
          have := (List.getElem?_eq_some_iff.mp hj).1
          rw [List.length_take] at this; omega
        rw [List.getElem?_take_of_lt hji] at hj
        obtain ⟨hi1, hi2⟩ := List.getElem?_eq_some_iff.mp hi
        obtain ⟨hj1, hj2⟩ := List.getElem?_eq_some_iff.mp hj
        have := List.pairwise_iff_getElem.mp hBs.asc j i hj1 hi1 hji
        omega
      have hlen : (bs.take i).length ≤ x + 1 := by
        have hnd : bs.length ≤ x + 1 := nodup_len _ (hBs.asc.imp fun h => Nat.ne_of_lt h) fun c hc => Nat.lt_succ_of_le (hBs.le c hc)
        rw [List.length_take]; omega
      have etk : bs.take (i + 1) = bs.take i ++ [b] := by rw [List.take_succ, hi]; rfl
      walk_at "go"
      refine ⟨Sto.rs C a S, _, by walk_at "spl", a, S, b, rfl, rfl, hb2, hbl, ?_⟩
      show AG _ _ _ _ _ (BsR C a S kd cs (bs.take i)) _
      walk_at "go"
      refine ia_l (cs_at (by omega)) ?_
      walk_at "go"
      refine ⟨_, rfl, hc.rb _, ?_⟩
      walk_at "go"
      refine ⟨Sto.rs C a S, _, by walk_at "spl", a, S, b, rfl, rfl, hb2, hbl, ?_⟩
      show AEs _ _ _ _ (BsR C a S kd cs (bs.take i)) _
      walk_at "go"
      refine fsp_all (mon_side C) ⟨a, S, M, _, lvN S.N b + 1, cs, kd, _, rfl, rfl, hN, hM, by omega, by omega, okb.llo, klo, hc, ?_⟩
      walk_at "go"
      refine ⟨_, _, rfl, (hc.rb _).rest (hc.c01 _), hc.mx _ _ _ _, ?_⟩
      walk_at "go"
      refine ia_l (cs_at (by omega)) ?_
      walk_at "go"
      refine ⟨Sto.rs C a S, _, by walk_at "spl", a, S, b, rfl, rfl, hb2, hbl, ?_⟩
      show AEs _ _ _ _ (BsR C a S kd cs (bs.take i)) _
      walk_at "go"
      refine fsp_all (mon_side C) ⟨a, S, M, _, lvN S.N b + 1, cs, kd, _, rfl, rfl, hN, hM, by omega, by omega, okb.lhi, khi, hc, ?_⟩
      walk_at "go"
      refine ⟨_, _, rfl, hc.rb _, hc.mx _ _ _ _, ?_⟩
      walk_at "go"
      refine ⟨_, _, rfl, hc.low _ _ _ _, hc.high _ _ _ _, ?_⟩
      have eb := bF_node (N := S.N) (cs := cs) hb2 (by omega)
      unfold mxR at eb
      walk_at "go"
      rw [cmp_nn]
      refine ⟨fun h => ?_, fun h => ?_⟩
      · have h := of_decide_eq_true h
        rw [if_pos h] at eb
        walk_at "go"
        show StA _ _ _ (A.d (dR ((1 - pAt cs (lvN S.N b)) * mxA S.N (pAt cs) (cs.length - (lvN S.N b + 1)) (lvN S.N b + 1) (loN S.N b)))) _ _
        rw [← eb]
        refine sta_dK hU (ky := .inl (b : Int)) (.there (.there (.there (.there (.there (.there .here)))))) rfl (by unfold rD; rw [List.length_map]; omega) ?_
        rw [rD_put hnb, ← etk]
        walk_at "go"
        exact ⟨_, _, Le.refl _, Fg.refl _, bs, _, _, _, _, _, rfl, hBs, rfl, rfl⟩
      · have h := of_decide_eq_false h
        rw [if_neg h] at eb
        walk_at "go"
        show StA _ _ _ (A.d (dR (pAt cs (lvN S.N b) * mxA S.N (pAt cs) (cs.length - (lvN S.N b + 1)) (lvN S.N b + 1) (hiN S.N b)))) _ _
        rw [← eb]
        refine sta_dK hU (ky := .inl (b : Int)) (.there (.there (.there (.there (.there (.there .here)))))) rfl (by unfold rD; rw [List.length_map]; omega) ?_
        rw [rD_put hnb, ← etk]
        walk_at "go"
        exact ⟨_, _, Le.refl _, Fg.refl _, bs, _, _, _, _, _, rfl, hBs, rfl, rfl⟩
    · rintro δ R ⟨bs2, v1, v2, v3, v4, v5, e, hB2, rfl, rfl⟩
      obtain rfl := nats_inj e
      rw [List.length_map, List.take_length]
      show ASs _ _ _ _ _ _
      refine as_cons (as_ret (ae_tupP ?_))
      walk_at "go"
      exact ⟨[.ptr kd, .d (.list (frL cs))], rfl, le_two, _, Le.refl _, kont kd bs hB2⟩
theorem lst_skip {N : List K3} {k l a : Nat} (h : ¬ (2 ≤ a ∧ lvN N a = l)) : lstB N (k + 1) l a = false :: lstB N k (l + 1) a := by
  show (if 2 ≤ a ∧ lvN N a = l then _ else _) :: _ = _
  rw [if_neg h, cof_skip _ h]
theorem lst_at {N : List K3} {k l a : Nat} (h2 : 2 ≤ a) (h : lvN N a = l) : lstB N (k + 1) l a = decide (loN N a = 0) :: lstB N k (l + 1) (if decide (loN N a = 0) = true then hiN N a else loN N a) := by
  show (if 2 ≤ a ∧ lvN N a = l then _ else _) :: lstB N k (l + 1) (cofN N l (if 2 ≤ a ∧ lvN N a = l then _ else _) a) = _
  rw [if_pos ⟨h2, h⟩, cof_at _ h2 h]
def spLeast (C : Addr) : ASp := fun xs R post _ => ∃ (a : Sad) (S : Sto) (M x : Nat) (cs : List Rat), xs = [.ptr a.s, .i x, .l (cs.map dR)] ∧ R = Sto.rs C a S ∧ NOk M S.N ∧ M ≤ cs.length ∧ x < S.N.length + 2 ∧ cs.length ≤ 1000 ∧
  ∀ q, post (.ptr q) ((q, .lst ((lstB S.N cs.length 0 x).map A.b)) :: Sto.rs C a S)
theorem mon_least (C : Addr) : Mon (spLeast C) := fun xs R p p' e e' h _ ⟨a, S, M, x, cs, h1, h2, h3, h4, h5, h6, k⟩ => ⟨a, S, M, x, cs, h1, h2, h3, h4, h5, h6, fun q => h _ _ (k q)⟩
theorem c_least_bits (d : Df K mg "least_bits" s_least_bits ["store", "a", "chances"]) (B : Blt mg) (cF : Cst K mg "FALSE" (.int 0)) (m4 : Mcal P w K mg base 1 C "level" ["self", "a"] (spGet C lvN)) (m5 : Mcal P w K mg base 1 C "low" ["self", "a"] (spGet C loN)) (m6 : Mcal P w K mg base 1 C "high" ["self", "a"] (spGet C hiN)) : Cal P w K mg base 2 "least_bits" ["store", "a", "chances"] (spLeast C) := d.cal (mon_least C) fun f fd F => by
  have bLen := B.len
  refine okA F sc_least_bits lc_least_bits (fun xs R q e h => ?_) ?_
  · obtain ⟨a, S, M, x, cs, rfl, _⟩ := h; rfl
  rintro X hX hU hr ⟨cdv, Ar, outer, s, H, E, rfl⟩ xs R post exc ⟨a, S, M, x, cs, rfl, rfl, hN, hM, hx, hcl, kont⟩
  show ASs _ _ (defBody s_least_bits) [("store", some (.ptr a.s)), ("a", some (.i x)), ("chances", some (.l (cs.map dR))), ("bits", none), ("level", none)] _ _
  have hsz : 2000000 < sizeLine := by decide
  walk_at "go"
  rename_i bp
  refine as_for (fun i δ R => ∃ (y : Nat) (bs : List Bool) (v1 : Option AL.A), i ≤ cs.length ∧ bs.length = i ∧ bs ++ lstB S.N (cs.length - i) i y = lstB S.N cs.length 0 x ∧ y < S.N.length + 2 ∧ geL S.N i y ∧
    δ = ([("store", some (.ptr a.s)), ("a", some (.i y)), ("chances", some (.l (cs.map dR))), ("bits", some (.ptr bp)), ("level", v1)] : SL) ∧ R = Sto.rx C a S [(bp, .lst (bs.map A.b))]) hX ?_
  refine ai_range1 B.range ?_
  walk_at "go"
  rw [List.length_map]
  refine ⟨_, rfl, by omega, by omega, ⟨_, _, Le.perm (List.perm_append_comm (l₁ := [(bp, Res.lst [])]) (l₂ := Sto.rs C a S)), Fg.refl _, x, [], none, Nat.zero_le _, rfl, rfl, hx, fun _ => Nat.zero_le _, rfl, rfl⟩, fun _ _ _ _ => trivial, ?_, ?_⟩
  · rintro i c δ R hi0 ⟨y, bs, v1, hin, hbl, hbe, hy, hg, rfl, rfl⟩
    obtain ⟨hi, rfl⟩ := rangeA_get hi0
    clear hi0
    rw [Int.toNat_natCast] at hi
    rw [Int.zero_add]
    have ek : cs.length - i = (cs.length - (i + 1)) + 1 := by omega
    rw [ek] at hbe
    have hbn : (bs.map A.b).length < sizeLine := by rw [List.length_map]; omega
    have skip : ¬ (2 ≤ y ∧ lvN S.N y = i) → bs ++ [false] ++ lstB S.N (cs.length - (i + 1)) (i + 1) y = lstB S.N cs.length 0 x ∧ geL S.N (i + 1) y := fun h => by
      rw [lst_skip h] at hbe
      exact ⟨by rw [← hbe, List.append_assoc]; rfl, fun h2 => by have := hg h2; have : lvN S.N y ≠ i := fun z => h ⟨h2, z⟩; omega⟩
    have fin : ∀ {v : Bool}, bs.map A.b ++ [A.b v] = (bs ++ [v]).map A.b := fun {v} => by rw [List.map_append]; rfl
    walk_at "go"
    refine ⟨fun h2 => ?_, fun h2 => ?_⟩
    · have h2 : 2 ≤ y := by have := of_decide_eq_false h2; omega
      walk_at "go"
      refine ⟨Sto.rs C a S, _, by walk_at "spl", a, S, y, rfl, rfl, h2, hy, ?_⟩
      show AE _ _ _ _ (Sto.rx C a S [(bp, .lst (bs.map A.b))]) _
      walk_at "go"
      refine ⟨fun h3 => ?_, fun h3 => ?_⟩
      · have h3 : ¬ (2 ≤ y ∧ lvN S.N y = i) := fun z => by have := of_decide_eq_true h3; omega
        obtain ⟨s1, s2⟩ := skip h3
        walk_at "go"
        exact ⟨_, _, Le.refl _, Fg.refl _, y, bs ++ [false], _, by omega, by rw [List.length_append, hbl]; rfl, s1, hy, s2, rfl, by rw [fin]⟩
      · have h3 : lvN S.N y = i := by have := of_decide_eq_false h3; have := hg h2; omega
        have ok := hN y h2 hy
        have o1 := ok.lo
        have o2 := ok.hi
        have o3 := ok.llo
        have o4 := ok.lhi
        rw [h3] at o3 o4
        rw [lst_at h2 h3] at hbe
        walk_at "go"
        refine ⟨Sto.rs C a S, _, by walk_at "spl", a, S, y, rfl, rfl, h2, hy, ?_⟩
        show AE _ _ _ _ (Sto.rx C a S [(bp, .lst (bs.map A.b))]) _
        walk_at "go"
        have ed : decide (((loN S.N y : Nat) : Int) = 0) = decide (loN S.N y = 0) := decide_eq_decide.mpr (by omega)
        rw [ed]
        refine ia_lst (.there (.there (.there (.there (.there (.there .here)))))) (L2.atI_last _ _) ?_
        refine ⟨_, rfl, fun hv => ?_, fun hv => ?_⟩
        · rw [if_pos hv] at hbe
          walk_at "go"
          refine ⟨Sto.rs C a S, _, by walk_at "spl", a, S, y, rfl, rfl, h2, hy, ?_⟩
          show AG _ _ _ _ _ (Sto.rx C a S [(bp, .lst (bs.map A.b ++ [A.b (decide (loN S.N y = 0))]))]) _
          walk_at "go"
          exact ⟨_, _, Le.refl _, Fg.refl _, _, bs ++ [decide (loN S.N y = 0)], _, by omega, by rw [List.length_append, hbl]; rfl, by rw [← hbe, List.append_assoc]; rfl, Nat.lt_trans o2 hy, o4, rfl, by rw [fin]⟩
        · rw [if_neg (by rw [hv]; decide)] at hbe
          walk_at "go"
          refine ⟨Sto.rs C a S, _, by walk_at "spl", a, S, y, rfl, rfl, h2, hy, ?_⟩
          show AG _ _ _ _ _ (Sto.rx C a S [(bp, .lst (bs.map A.b ++ [A.b (decide (loN S.N y = 0))]))]) _
          walk_at "go"
          exact ⟨_, _, Le.refl _, Fg.refl _, _, bs ++ [decide (loN S.N y = 0)], _, by omega, by rw [List.length_append, hbl]; rfl, by rw [← hbe, List.append_assoc]; rfl, Nat.lt_trans o1 hy, o3, rfl, by rw [fin]⟩
    · have h2 : ¬ (2 ≤ y ∧ lvN S.N y = i) := fun z => by have := of_decide_eq_true h2; omega
      obtain ⟨s1, s2⟩ := skip h2
      walk_at "go"
      exact ⟨_, _, Le.refl _, Fg.refl _, y, bs ++ [false], _, by omega, by rw [List.length_append, hbl]; rfl, s1, hy, s2, rfl, by rw [fin]⟩
  · rintro δ R ⟨y, bs, v1, hin, hbl, hbe, hy, hg, rfl, rfl⟩
    rw [rangeA_len, Int.toNat_natCast] at hbe hbl
    rw [Nat.sub_self] at hbe
    have e0 : lstB S.N 0 cs.length y = [] := rfl
    rw [e0, List.append_nil] at hbe
    subst hbe
    walk_at "go"
    exact ⟨_, Le.perm (List.perm_append_comm (l₁ := Sto.rs C a S) (l₂ := [(bp, _)])), kont bp⟩
end

end
section
local macro_rules | `(tactic| walk_at "flk") => `(tactic| first | exact stF_lv _ | exact stF_lo _ | exact stF_hi _ | exact stF_nd _ | exact stF_ch _)
local macro_rules | `(tactic| walk_at "len") => `(tactic| first | omega | (simp only [Sto.lvs, Sto.los, Sto.his, List.length_map, ndD, ndG_len, chD, List.length_append, List.length_cons, List.length_nil]; omega))
local macro_rules | `(tactic| walk_at "ixl") => `(tactic| first | rfl | (refine lvs_at ?_ ?_ <;> omega) | (refine los_at ?_ ?_ <;> omega) | (refine his_at ?_ ?_ <;> omega))

/-! ### the bits of the best; likeliest -/
local macro_rules | `(tactic| walk_at "as") => `(tactic| first
  | ((with_reducible show AS _ _ (Stmt.Raise (some _) none _) _ _ _); refine' as_raise (by assumption) (XD.calm (by assumption)) ?_))
local macro_rules | `(tactic| walk_at "ae") => `(tactic| first
  | ((with_reducible show AE _ _ (Expr.Call (Expr.Name "least_bits" _) _ _ _) _ _ _); refine ae_fz ?_; refine' ae_call (by assumption) (by assumption) (by decide) ?_)
  | ((with_reducible show AE _ _ (Expr.Call (Expr.Name "best_bits" _) _ _ _) _ _ _); refine ae_fz ?_; refine' ae_call (by assumption) (by assumption) (by decide) ?_))
section
variable {P : Program} {w : World} {K : PySem.W.Frag} {mg : Str → Option Value} {base : Heap} {C CE : Addr}
theorem gr_skip {N : List K3} {p : Nat → Rat} {k l a : Nat} (h : ¬ (2 ≤ a ∧ lvN N a = l)) : grB N p (k + 1) l a = decide (1 - p l < p l) :: grB N p k (l + 1) a := by
  show grV N p k l a :: _ = _
  unfold grV
  rw [if_neg h, cof_skip _ h]
theorem gr_at {N : List K3} {p : Nat → Rat} {k l a : Nat} (h2 : 2 ≤ a) (h : lvN N a = l) : grB N p (k + 1) l a = decide ((1 - p l) * mxA N p k (l + 1) (loN N a) < p l * mxA N p k (l + 1) (hiN N a)) :: grB N p k (l + 1) (if decide ((1 - p l) * mxA N p k (l + 1) (loN N a) < p l * mxA N p k (l + 1) (hiN N a)) = true then hiN N a else loN N a) := by
  show grV N p k l a :: grB N p k (l + 1) (cofN N l (grV N p k l a) a) = _
  unfold grV
  rw [if_pos ⟨h2, h⟩, cof_at _ h2 h]
abbrev BsR2 (C : Addr) (a : Sad) (S : Sto) (kd : Addr) (cs : List Rat) (ks : List Nat) (bp : Addr) (xs : List A) : RL := Sto.rx C a S [(kd, .dK (rD (bF S.N cs) ks)), (bp, .lst xs)]
def spBits (C : Addr) : ASp := fun xs R post _ => ∃ (a : Sad) (S : Sto) (M x : Nat) (cs : List Rat) (kd : Addr) (ks : List Nat), xs = [.ptr a.s, .i x, .l (cs.map dR), .l (frL cs), .ptr kd] ∧ R = BsR C a S kd cs ks ∧ NOk M S.N ∧ M ≤ cs.length ∧ x < S.N.length + 2 ∧ BelR S.N x ks ∧ ChS cs ∧
  ∀ q, post (.ptr q) ((q, .lst ((grB S.N (pAt cs) cs.length 0 x).map A.b)) :: BsR C a S kd cs ks)
theorem mon_bits (C : Addr) : Mon (spBits C) := fun xs R p p' e e' h _ ⟨a, S, M, x, cs, kd, ks, h1, h2, h3, h4, h5, h6, h7, k⟩ => ⟨a, S, M, x, cs, kd, ks, h1, h2, h3, h4, h5, h6, h7, fun q => h _ _ (k q)⟩
theorem c_best_bits (d : Df K mg "best_bits" s_best_bits ["store", "a", "chances", "free", "best"]) (B : Blt mg) (m2 : Cal P w K mg base 2 "times" ["a", "b"] (sp2R (· * ·))) (m4 : Mcal P w K mg base 1 C "level" ["self", "a"] (spGet C lvN)) (m5 : Mcal P w K mg base 1 C "low" ["self", "a"] (spGet C loN)) (m6 : Mcal P w K mg base 1 C "high" ["self", "a"] (spGet C hiN))
    (m7 : Cal P w K mg base 3 "rest" ["r"] (sp1R fun a => 1 - a)) (m8 : Cal P w K mg base 4 "side" ["store", "a", "level", "free", "best"] (spSide C)) (m9 : Cal P w K mg base 1 "compare" ["a", "b"] spCmp) : Cal P w K mg base 5 "best_bits" ["store", "a", "chances", "free", "best"] (spBits C) := d.cal (mon_bits C) fun f fd F => by
  have bLen := B.len
  refine okA F sc_best_bits lc_best_bits (fun xs R q e h => ?_) ?_
  · obtain ⟨a, S, M, x, cs, kd, ks, rfl, _⟩ := h; rfl
  rintro X hX hU hr ⟨cdv, Ar, outer, s, H, E, rfl⟩ xs R post exc ⟨a, S, M, x, cs, kd, ks, rfl, rfl, hN, hM, hx, hBs, hc, kont⟩
  show ASs _ _ (defBody s_best_bits) [("store", some (.ptr a.s)), ("a", some (.i x)), ("chances", some (.l (cs.map dR))), ("free", some (.l (frL cs))), ("best", some (.ptr kd)), ("bits", none), ("level", none), ("chance", none), ("low", none), ("high", none)] _ _
  have hsz : 2000000 < sizeLine := by decide
  have hcl := hc.len
  walk_at "go"
  rename_i bp
  refine as_for (fun i δ R => ∃ (y : Nat) (bs : List Bool) (v1 v2 v3 v4 : Option AL.A), i ≤ cs.length ∧ bs.length = i ∧ bs ++ grB S.N (pAt cs) (cs.length - i) i y = grB S.N (pAt cs) cs.length 0 x ∧ y < S.N.length + 2 ∧ geL S.N i y ∧ (2 ≤ y → y ∈ ks) ∧
    δ = ([("store", some (.ptr a.s)), ("a", some (.i y)), ("chances", some (.l (cs.map dR))), ("free", some (.l (frL cs))), ("best", some (.ptr kd)), ("bits", some (.ptr bp)), ("level", v1), ("chance", v2), ("low", v3), ("high", v4)] : SL) ∧ R = BsR2 C a S kd cs ks bp (bs.map A.b)) hX ?_
  refine ai_range1 B.range ?_
  walk_at "go"
  rw [List.length_map]
  refine ⟨_, rfl, by omega, by omega, ⟨_, _, Le.perm (List.perm_append_comm (l₁ := [(bp, Res.lst [])]) (l₂ := BsR C a S kd cs ks)), Fg.refl _, x, [], none, none, none, none, Nat.zero_le _, rfl, rfl, hx, fun _ => Nat.zero_le _, hBs.top, rfl, rfl⟩, fun _ _ _ _ => trivial, ?_, ?_⟩
  · rintro i c δ R hi0 ⟨y, bs, v1, v2, v3, v4, hin, hbl, hbe, hy, hg, hk, rfl, rfl⟩
    obtain ⟨hi, rfl⟩ := rangeA_get hi0
    clear hi0
    rw [Int.toNat_natCast] at hi
    rw [Int.zero_add]
    have ek : cs.length - i = (cs.length - (i + 1)) + 1 := by omega
    rw [ek] at hbe
    have hbn : (bs.map A.b).length < sizeLine := by rw [List.length_map]; omega
    have fin : ∀ {v : Bool}, bs.map A.b ++ [A.b v] = (bs ++ [v]).map A.b := fun {v} => by rw [List.map_append]; rfl
    have skip : ¬ (2 ≤ y ∧ lvN S.N y = i) → bs ++ [decide (1 - pAt cs i < pAt cs i)] ++ grB S.N (pAt cs) (cs.length - (i + 1)) (i + 1) y = grB S.N (pAt cs) cs.length 0 x ∧ geL S.N (i + 1) y := fun h => by
      rw [gr_skip h] at hbe
      exact ⟨by rw [← hbe, List.append_assoc]; rfl, fun h2 => by have := hg h2; have : lvN S.N y ≠ i := fun z => h ⟨h2, z⟩; omega⟩
    walk_at "go"
    refine ia_l (cs_at hi) ?_
    show AG _ _ _ _ _ (BsR2 C a S kd cs ks bp (bs.map A.b)) _
    walk_at "go"
    refine ⟨fun h2 => ?_, fun h2 => ?_⟩
    · have h2 : 2 ≤ y := by have := of_decide_eq_false h2; omega
      walk_at "go"
      refine ⟨Sto.rs C a S, _, by walk_at "spl", a, S, y, rfl, rfl, h2, hy, ?_⟩
      show AE _ _ _ _ (BsR2 C a S kd cs ks bp (bs.map A.b)) _
      walk_at "go"
      refine ⟨fun h3 => ?_, fun h3 => ?_⟩
      · have h3 : ¬ (2 ≤ y ∧ lvN S.N y = i) := fun z => by have := of_decide_eq_true h3; omega
        obtain ⟨s1, s2⟩ := skip h3
        walk_at "go"
        refine ⟨_, rfl, hc.rb _, ?_⟩
        walk_at "go"
        refine ⟨_, _, rfl, hc.rb _, (hc.rb _).rest (hc.c01 _), ?_⟩
        walk_at "go"
        rw [cmp_pos]
        exact ⟨_, _, Le.refl _, Fg.refl _, y, bs ++ [decide (1 - pAt cs i < pAt cs i)], _, _, _, _, by omega, by rw [List.length_append, hbl]; rfl, s1, hy, s2, hk, rfl, by rw [← fin]⟩
      · have h3 : lvN S.N y = i := by have := of_decide_eq_false h3; have := hg h2; omega
        have ok := hN y h2 hy
        have o1 := ok.lo
        have o2 := ok.hi
        have o3 := ok.llo
        have o4 := ok.lhi
        obtain ⟨kl, kh⟩ := hBs.cl y (hk h2)
        rw [h3] at o3 o4
        rw [gr_at h2 h3] at hbe
        walk_at "go"
        refine ⟨_, rfl, hc.rb _, ?_⟩
        walk_at "go"
        refine ⟨Sto.rs C a S, _, by walk_at "spl", a, S, y, rfl, rfl, h2, hy, ?_⟩
        show AEs _ _ _ _ (BsR2 C a S kd cs ks bp (bs.map A.b)) _
        walk_at "go"
        refine ⟨BsR C a S kd cs ks, _, by walk_at "spl", a, S, M, _, i + 1, cs, kd, ks, rfl, rfl, hN, hM, by omega, by omega, o3, kl, hc, ?_⟩
        show AEs _ _ _ _ (BsR2 C a S kd cs ks bp (bs.map A.b)) _
        walk_at "go"
        refine ⟨_, _, rfl, (hc.rb _).rest (hc.c01 _), hc.mx _ _ _ _, ?_⟩
        walk_at "go"
        refine ⟨Sto.rs C a S, _, by walk_at "spl", a, S, y, rfl, rfl, h2, hy, ?_⟩
        show AEs _ _ _ _ (BsR2 C a S kd cs ks bp (bs.map A.b)) _
        walk_at "go"
        refine ⟨BsR C a S kd cs ks, _, by walk_at "spl", a, S, M, _, i + 1, cs, kd, ks, rfl, rfl, hN, hM, by omega, by omega, o4, kh, hc, ?_⟩
        show AEs _ _ _ _ (BsR2 C a S kd cs ks bp (bs.map A.b)) _
        walk_at "go"
        refine ⟨_, _, rfl, hc.rb _, hc.mx _ _ _ _, ?_⟩
        walk_at "go"
        refine ⟨_, _, rfl, hc.high _ _ _ _, hc.low _ _ _ _, ?_⟩
        walk_at "go"
        rw [cmp_pos]
        show IA _ _ _ _ _ (BsR2 C a S kd cs ks bp (bs.map A.b ++ [A.b (decide ((1 - pAt cs i) * mxA S.N (pAt cs) (cs.length - (i + 1)) (i + 1) (loN S.N y) < pAt cs i * mxA S.N (pAt cs) (cs.length - (i + 1)) (i + 1) (hiN S.N y)))])) _
        generalize decide ((1 - pAt cs i) * mxA S.N (pAt cs) (cs.length - (i + 1)) (i + 1) (loN S.N y) < pAt cs i * mxA S.N (pAt cs) (cs.length - (i + 1)) (i + 1) (hiN S.N y)) = z at hbe ⊢
        refine ia_lst (.there (.there (.there (.there (.there (.there (.there .here))))))) (L2.atI_last _ _) ?_
        refine ⟨_, rfl, fun hv => ?_, fun hv => ?_⟩
        · rw [if_pos hv] at hbe
          walk_at "go"
          refine ⟨Sto.rs C a S, _, by walk_at "spl", a, S, y, rfl, rfl, h2, hy, ?_⟩
          show AG _ _ _ _ _ (BsR2 C a S kd cs ks bp (bs.map A.b ++ [A.b z])) _
          walk_at "go"
          exact ⟨_, _, Le.refl _, Fg.refl _, _, bs ++ [z], _, _, _, _, by omega, by rw [List.length_append, hbl]; rfl, by rw [← hbe, List.append_assoc]; rfl, Nat.lt_trans o2 hy, o4, kh, rfl, by rw [fin]⟩
        · rw [if_neg (by rw [hv]; decide)] at hbe
          walk_at "go"
          refine ⟨Sto.rs C a S, _, by walk_at "spl", a, S, y, rfl, rfl, h2, hy, ?_⟩
          show AG _ _ _ _ _ (BsR2 C a S kd cs ks bp (bs.map A.b ++ [A.b z])) _
          walk_at "go"
          exact ⟨_, _, Le.refl _, Fg.refl _, _, bs ++ [z], _, _, _, _, by omega, by rw [List.length_append, hbl]; rfl, by rw [← hbe, List.append_assoc]; rfl, Nat.lt_trans o1 hy, o3, kl, rfl, by rw [fin]⟩
    · have h2 : ¬ (2 ≤ y ∧ lvN S.N y = i) := fun z => by have := of_decide_eq_true h2; omega
      obtain ⟨s1, s2⟩ := skip h2
      walk_at "go"
      refine ⟨_, rfl, hc.rb _, ?_⟩
      walk_at "go"
      refine ⟨_, _, rfl, hc.rb _, (hc.rb _).rest (hc.c01 _), ?_⟩
      walk_at "go"
      rw [cmp_pos]
      exact ⟨_, _, Le.refl _, Fg.refl _, y, bs ++ [decide (1 - pAt cs i < pAt cs i)], _, _, _, _, by omega, by rw [List.length_append, hbl]; rfl, s1, hy, s2, hk, rfl, by rw [← fin]⟩
  · rintro δ R ⟨y, bs, v1, v2, v3, v4, hin, hbl, hbe, hy, hg, hk, rfl, rfl⟩
    rw [rangeA_len, Int.toNat_natCast] at hbe hbl
    rw [Nat.sub_self] at hbe
    have e0 : grB S.N (pAt cs) 0 cs.length y = [] := rfl
    rw [e0, List.append_nil] at hbe
    subst hbe
    walk_at "go"
    exact ⟨_, Le.perm (List.perm_append_comm (l₁ := BsR C a S kd cs ks) (l₂ := [(bp, _)])), kont bp⟩
theorem asd_b : ∀ bs : List Bool, AsD (bs.map A.b) (bs.map .bool)
  | [] => .nil
  | _ :: bs => .cons (asd_b bs)
def spLik (C CE : Addr) : ASp := fun xs R post exc => ∃ (a : Sad) (S : Sto) (M x : Nat) (cs : List Rat), xs = [.ptr a.s, .i x, .l (cs.map dR)] ∧ R = Sto.rs C a S ∧ NOk M S.N ∧ M ≤ cs.length ∧ x < S.N.length + 2 ∧ S.N.length < 1000000 ∧ ChS cs ∧
  (x = 0 → ∀ R', Le R' (Sto.rs C a S) → exc (.ref CE) none R') ∧ (x ≠ 0 → post (.t [.list ((if mxA S.N (pAt cs) cs.length 0 x = 0 then lstB S.N cs.length 0 x else grB S.N (pAt cs) cs.length 0 x).map .bool), dR (mxA S.N (pAt cs) cs.length 0 x)]) (Sto.rs C a S))
theorem mon_lik (C CE : Addr) : Mon (spLik C CE) := fun xs R p p' e e' h he ⟨a, S, M, x, cs, h1, h2, h3, h4, h5, h6, h7, k1, k2⟩ => ⟨a, S, M, x, cs, h1, h2, h3, h4, h5, h6, h7, fun z R' l => he _ _ _ (k1 z R' l), fun z => h _ _ (k2 z)⟩
theorem c_likeliest (d : Df K mg "likeliest" s_likeliest ["store", "a", "chances"]) (cF : Cst K mg "FALSE" (.int 0)) (cZ : Cst K mg "ZERO" (.tuple [.int 0, .int 1])) (cE : ExcC K mg "NoEvidence" CE) (m1 : Cal P w K mg base 5 "best_masses" ["store", "a", "chances"] (spBestM C)) (m2 : Cal P w K mg base 4 "side" ["store", "a", "level", "free", "best"] (spSide C)) (m3 : Cal P w K mg base 2 "least_bits" ["store", "a", "chances"] (spLeast C)) (m4 : Cal P w K mg base 5 "best_bits" ["store", "a", "chances", "free", "best"] (spBits C)) :
    Cal P w K mg base 6 "likeliest" ["store", "a", "chances"] (spLik C CE) := d.cal (mon_lik C CE) fun f fd F => by
  refine okA F sc_likeliest lc_likeliest (fun xs R q e h => ?_) ?_
  · obtain ⟨a, S, M, x, cs, rfl, _⟩ := h; rfl
  rintro X hX hU hr ⟨cdv, Ar, outer, s, H, E, rfl⟩ xs R post exc ⟨a, S, M, x, cs, rfl, rfl, hN, hM, hx, hs, hc, k1, k2⟩
  show ASs _ _ (defBody s_likeliest) [("store", some (.ptr a.s)), ("a", some (.i x)), ("chances", some (.l (cs.map dR))), ("best", none), ("free", none), ("mass", none)] _ _
  have hsz : 2000000 < sizeLine := by decide
  walk_at "go"
  refine ⟨fun h0 => ?_, fun h0 => ?_⟩
  · have h0 : x = 0 := by have := of_decide_eq_true h0; omega
    walk_at "go"
    exact k1 h0 _ (Le.refl _)
  have h0 : x ≠ 0 := by have := of_decide_eq_false h0; omega
  replace k2 := k2 h0
  walk_at "go"
  refine fsp_all (mon_bestM C) ⟨a, S, M, x, cs, rfl, rfl, hN, hM, hx, hs, hc, fun kd ks hBs => ?_⟩
  refine ag_tupP hX ?_
  walk_at "go"
  show AGs _ _ _ [.ptr kd, .l (frL cs)] _ _ _
  walk_at "go"
  refine fsp_all (mon_side C) ⟨a, S, M, x, 0, cs, kd, ks, rfl, rfl, hN, hM, hx, Nat.zero_le _, fun _ => Nat.zero_le _, hBs.top, hc, ?_⟩
  rw [Nat.sub_zero]
  walk_at "go"
  refine ba_eqD hU (shaped_dR _) (shaped_dR 0) ?_
  rw [eqv_dR0]
  refine ⟨_, rfl, fun hz => ?_, fun hz => ?_⟩
  · have hz := of_decide_eq_true hz
    rw [if_pos hz, hz] at k2
    walk_at "go"
    refine ⟨Sto.rs C a S, _, by walk_at "spl", a, S, M, x, cs, rfl, rfl, hN, hM, hx, hc.len, fun q => ?_⟩
    refine ⟨q, _, _, BsR C a S kd cs ks, rfl, .here, asd_b _, ?_⟩
    walk_at "go"
    exact ⟨le_two, _, Le.trans (Le.perm (List.perm_append_comm (l₁ := Sto.rs C a S) (l₂ := [(kd, _)]))) (Le.appR _), k2⟩
  · have hz := of_decide_eq_false hz
    rw [if_neg hz] at k2
    walk_at "go"
    refine fsp_all (mon_bits C) ⟨a, S, M, x, cs, kd, ks, rfl, rfl, hN, hM, hx, hBs, hc, fun q => ?_⟩
    refine ⟨q, _, _, BsR C a S kd cs ks, rfl, .here, asd_b _, ?_⟩
    walk_at "go"
    exact ⟨le_two, _, Le.trans (Le.perm (List.perm_append_comm (l₁ := Sto.rs C a S) (l₂ := [(kd, _)]))) (Le.appR _), k2⟩
end

end
section
local macro_rules | `(tactic| walk_at "flk") => `(tactic| first | exact stF_lv _ | exact stF_lo _ | exact stF_hi _ | exact stF_nd _ | exact stF_ch _)
local macro_rules | `(tactic| walk_at "len") => `(tactic| first | omega | (simp only [Sto.lvs, Sto.los, Sto.his, List.length_map, ndD, ndG_len, chD, List.length_append, List.length_cons, List.length_nil]; omega))
local macro_rules | `(tactic| walk_at "ixl") => `(tactic| first | rfl | (refine lvs_at ?_ ?_ <;> omega) | (refine los_at ?_ ?_ <;> omega) | (refine his_at ?_ ?_ <;> omega))

/-! ### the law's best; the law -/
local macro_rules | `(tactic| walk_at "ae") => `(tactic| first
  | ((with_reducible show AE _ _ (Expr.Call (Expr.Name "list" _) [Expr.Call (Expr.Name "range" _) [_] _ _] _ _) _ _ _); refine ae_fz ?_; refine' ae_listRange (XD.calm (by assumption)) (by assumption) (by assumption) ?_)
  | ((with_reducible show AE _ _ (Expr.List [] _) _ _ _); refine ae_fz (ae_lst (aes_nil ⟨Nat.zero_le _, fun _ => ⟨_, _, _, _, rfl, Rem.here, AsD.nil, ?_⟩⟩)))
  | ((with_reducible show AE _ _ (Expr.List [_, _] _) _ _ _); refine ae_fz (ae_lst ?_)))
theorem dpr_tail {cs : List Rat} (h : ∀ l, (pAt cs l).den ≤ 6) : ∀ k l, dpr cs k l ≤ 6 ^ (cs.length - l)
  | 0, l => Nat.succ_le_of_lt (Nat.pow_pos (by decide))
  | k + 1, l => by
    show (pAt cs l).den * dpr cs k (l + 1) ≤ _
    have ih := dpr_tail h k (l + 1)
    by_cases hl : l < cs.length
    · rw [show cs.length - l = (cs.length - (l + 1)) + 1 by omega, Nat.pow_succ, Nat.mul_comm]
      exact Nat.mul_le_mul ih (h l)
    · have e : pAt cs l = 0 := by
        unfold pAt
        rw [List.getD_eq_getElem?_getD, List.getElem?_eq_none (by omega)]; rfl
      rw [e]
      show 1 * _ ≤ _
      rw [Nat.one_mul, show cs.length - l = cs.length - (l + 1) by omega]
      exact ih
theorem chS_of {cs : List Rat} (h : ∀ c ∈ cs, Ch6 c) (hl : cs.length ≤ 1000) : ChS cs := by
  have hc := ch6_c01 h
  refine ⟨hc.bd, hl, fun k l => ?_, fun l => ?_⟩
  · exact Nat.lt_of_le_of_lt (dpr_tail (pAt_den h) k l) (Nat.lt_of_le_of_lt (Nat.pow_le_pow_right (by decide) (show cs.length - l ≤ 1200 by omega)) pw6)
  · have := IntD.den (pAt cs l)
    exact RB.of this (hc.bd l).1 (hc.bd l).2 (pAt cs l).den_pos (Nat.lt_of_le_of_lt (pAt_den h l) (Nat.lt_of_lt_of_le (by decide : 6 < 2 ^ 3) (Nat.pow_le_pow_right (by decide) (by decide))))
def bestD : Option (List Bool × Rat) → List PyData
  | none => []
  | some (b, m) => [.list (b.map .bool), dR m]
def nrG (h : Nat → Int) (x : A) : Option A := match x with
  | .d (.int z) => some (.i (h z.toNat))
  | _ => none
theorem nrG_eq (h : Nat → Int) (M : Nat) : (rangeA 0 M).filterMap (nrG h) = (((List.range M).map h).map PyData.int).map A.d := by
  unfold rangeA
  generalize List.range M = l
  induction l with
  | nil => rfl
  | cons v r ih =>
    rw [List.map_cons, List.map_cons, List.map_cons, List.map_cons, List.filterMap_cons_some (f := nrG h) (b := A.i (h v)) ?_, ih]
    show some (A.i (h ((0 : Int) + (v : Int)).toNat)) = _
    rw [Int.zero_add, Int.toNat_natCast]
def idxT (b : Nat → Bool) : Nat → Nat
  | 0 => 0
  | n + 1 => 2 ^ n * (b n).toNat + idxT b n
theorem idxT_sum (b : Nat → Bool) : ∀ n, ((List.range n).map fun k => (if b k then (1 : Int) else 0) * 2 ^ ((k : Int)).toNat).sum = (idxT b n : Int)
  | 0 => rfl
  | n + 1 => by
    rw [List.range_succ, List.map_append, List.sum_append, idxT_sum b n]
    show _ + (((if b n then (1 : Int) else 0) * 2 ^ ((n : Int)).toNat) + 0) = ((2 ^ n * (b n).toNat + idxT b n : Nat) : Int)
    rw [Int.toNat_natCast, Int.natCast_add, Int.natCast_mul, Int.natCast_pow, Int.add_zero]
    cases b n <;> simp <;> omega
theorem idxT_lt (b : Nat → Bool) : ∀ n, idxT b n < 2 ^ n
  | 0 => by show 0 < 1; decide
  | n + 1 => by
    have := idxT_lt b n
    show 2 ^ n * (b n).toNat + idxT b n < 2 ^ (n + 1)
    rw [Nat.pow_succ]
    cases b n <;> simp [Bool.toNat] <;> omega
theorem idxT_bit (b : Nat → Bool) : ∀ n l, (idxT b n).testBit l = (decide (l < n) && b l)
  | 0, l => by simp [idxT]
  | n + 1, l => by
    show (2 ^ n * (b n).toNat + idxT b n).testBit l = _
    rw [Nat.testBit_two_pow_mul_add _ (idxT_lt b n)]
    by_cases h : l < n
    · rw [if_pos h, idxT_bit b n l, decide_eq_true h, decide_eq_true (by omega)]
    · rw [if_neg h]
      by_cases h2 : l = n
      · subst h2
        rw [Nat.sub_self, decide_eq_true (by omega), Bool.true_and]
        cases b l <;> rfl
      · rw [decide_eq_false (show ¬ l < n + 1 by omega), Bool.false_and]
        cases b n
        · simp
        · rw [show true.toNat = 1 from rfl, show l - n = (l - n - 1) + 1 by omega, Nat.testBit_succ]; exact Nat.zero_testBit _
theorem ag_nameS {L : List Str} {X : Cx} {ex : EX} {δ δ' : SL} {R : RL} {a : Addr} {pn : List (Addr × Obj)} {x : Str} {v : A} {pos : Pos} {q : SL → RL → Prop} (hX : XD X L) (hm : x ∈ L) (u : Up δ x v δ') (k : q δ' R) : AG (X.suite a pn) ex (.Name x pos) v δ R q := by
  obtain ⟨l1, l2, l3, l4⟩ := hX.loc x hm
  exact ag_nameB (X := X.suite a pn) hX.nd l1 l2 ⟨l1.elim .inl fun z => .inr (.inl z), l3, l4⟩ u k
theorem Le.app {R R' : RL} (l : Le R' R) (Q : RL) : Le (R' ++ Q) (R ++ Q) := by
  refine ⟨fun x hx => ?_, fun n => ?_⟩
  · rcases List.mem_append.mp hx with h | h
    · exact List.mem_append.mpr (.inl (l.sub x h))
    · exact List.mem_append.mpr (.inr h)
  · show (List.map (·.1) (R ++ Q)).Nodup
    replace n : (List.map (·.1) (R' ++ Q)).Nodup := n
    rw [List.map_append] at n ⊢
    obtain ⟨n1, n2, n3⟩ := List.nodup_append.mp n
    refine List.nodup_append.mpr ⟨l.nd n1, n2, fun a ha b hb => n3 a (l.dom ha) b hb⟩
section
variable {P : Program} {w : World} {K : PySem.W.Frag} {mg : Str → Option Value} {base : Heap} {CS CE : Addr}
def spLBest : ASp := pur fun xs q => ∃ (n : Nat) (F : (Nat → Bool) → Bool) (cs : List Rat), xs = [.l (tabD n F), .l (cs.map dR), .i n] ∧ n ≤ 8 ∧ n ≤ cs.length ∧ cs.length ≤ 8 ∧ (∀ c ∈ cs, Ch6 c) ∧ (∀ β γ, (∀ l, l < n → β l = γ l) → F β = F γ) ∧ q (.l (bestD (bst F (pAt cs) cs.length (2 ^ cs.length))))
theorem mon_lBest : Mon spLBest := mon_pur fun xs q q' h ⟨n, F, cs, h1, h2, h3, h4, h5, h6, k⟩ => ⟨n, F, cs, h1, h2, h3, h4, h5, h6, h _ k⟩
theorem c__law_best (d : Df K mg "_law_best" s__law_best ["table", "chances", "many"]) (B : Blt mg) (m1 : Cal P w K mg base 3 "_law_mass" ["index", "chances"] spMass) : Cal P w K mg base 4 "_law_best" ["table", "chances", "many"] spLBest := d.cal mon_lBest fun f fd F => by
  have bLen := B.len
  have bInt := B.int
  have bSum := B.sum
  refine okA F sc__law_best lc__law_best (fun xs R q e h => ?_) ?_
  · obtain ⟨rfl, n, F, cs, rfl, _⟩ := h; rfl
  rintro X hX hU hr ⟨cdv, Ar, outer, s, H, E, rfl⟩ xs R post exc ⟨rfl, n, F, cs, rfl, hn, hnl, hcl, h6, hF, kont⟩
  show ASs _ _ (defBody s__law_best) [("table", some (.l (tabD n F))), ("chances", some (.l (cs.map dR))), ("many", some (.i n)), ("total", none), ("best", none), ("turn", none), ("bits", none), ("index", none), ("mass", none), ("k", none)] _ _
  have hsz : 2000000 < sizeLine := by decide
  have hc := chS_of h6 (by omega)
  have hpw : 2 ^ cs.length ≤ 256 := Nat.le_trans (Nat.pow_le_pow_right (by decide) hcl) (by decide)
  walk_at "go"
  rw [List.length_map]
  walk_at "go"
  refine as_for (fun t δ R => ∃ (v1 v2 v3 v4 v5 : Option AL.A), t ≤ 2 ^ cs.length ∧ (∀ b m, bst F (pAt cs) cs.length t = some (b, m) → RB m) ∧
    δ = ([("table", some (.l (tabD n F))), ("chances", some (.l (cs.map dR))), ("many", some (.i n)), ("total", some (.i cs.length)), ("best", some (.l (bestD (bst F (pAt cs) cs.length t)))), ("turn", v1), ("bits", v2), ("index", v3), ("mass", v4), ("k", v5)] : SL) ∧ R = []) hX ?_
  refine ai_range1 B.range ?_
  walk_at "go"
  refine ba_shl ⟨Int.natCast_nonneg _, by omega, by decide⟩ ?_
  rw [two_shl]
  walk_at "go"
  refine ⟨_, rfl, (rng10 (show cs.length ≤ 10 by omega)).1, (rng10 (show cs.length ≤ 10 by omega)).2, Wk.self ⟨none, none, none, none, none, Nat.zero_le _, (fun b m z => by cases z), rfl, rfl⟩, fun _ _ _ _ => trivial, ?_, ?_⟩
  · rintro t c δ R hi0 ⟨v1, v2, v3, v4, v5, htl, hRB, rfl, rfl⟩
    obtain ⟨ht, rfl⟩ := rangeA_get hi0
    clear hi0
    rw [Int.toNat_natCast] at ht
    rw [Int.zero_add]
    walk_at "go"
    refine ae_fz (ae_lc [("k", 9)] [("table", none), ("chances", none), ("many", none), ("total", some (.i cs.length)), ("best", none), ("turn", some (.i t)), ("bits", none), ("index", none), ("mass", none), ("k", none)] _ hX (blkOk_cx (by decide +kernel)) (.drop (.drop (.drop (.keep (by decide) (bx_vis (by decide +kernel)) (.drop (.keep (by decide) (bx_vis (by decide +kernel)) (.drop (.drop (.drop (.drop .nil)))))))))) (lc_fm (i := 9) (rbG fun k => t.testBit (cs.length - 1 - k)) (rangeA 0 cs.length) [] hX rfl (by decide) (by decide +kernel) (by decide +kernel) ?_))
    refine ai_range1 B.range ?_
    walk_at "go"
    refine ⟨_, rfl, by omega, by omega, by rw [Int.toNat_natCast], Le.refl _, by rw [rangeA_len]; omega, fun _ _ => trivial, fun D acc c hc => ?_, fun D => ?_⟩
    · obtain ⟨j, hj0⟩ := List.mem_iff_getElem?.mp hc
      obtain ⟨hj, rfl⟩ := rangeA_get hj0
      clear hj0
      refine ⟨_, (.there (.there (.there (.there (.there (.there (.there (.there (.there (.here)))))))))), fun X' hx' => ⟨fun _ => ?_, fun z => by cases z⟩⟩
      rintro X' ⟨s', H', C', cl', fp', rfl⟩
      rw [Int.zero_add]
      show AE _ _ _ [("table", none), ("chances", none), ("many", none), ("total", some (.i cs.length)), ("best", none), ("turn", some (.i t)), ("bits", none), ("index", none), ("mass", none), ("k", some (.i j))] _ _
      walk_at "go"
      rw [show ((cs.length : Nat) : Int) - 1 - ((j : Nat) : Int) = ((cs.length - 1 - j : Nat) : Int) by omega]
      refine ba_shr (Int.natCast_nonneg _) ?_
      walk_at "go"
      refine ba_band ?_
      walk_at "go"
      rw [shr_and]
      exact ⟨by show some (A.b (t.testBit (cs.length - 1 - ((j : Int)).toNat))) = _; rw [Int.toNat_natCast], _, .here, Le.refl _⟩
    rw [rbG_eq]
    refine ⟨D, _, _, _, rfl, .here, AsD.map _, ?_⟩
    refine ag_name hX (by walk_at "mem") (by walk_at "up") ?_
    show ASs _ _ _ [("table", some (.l (tabD n F))), ("chances", some (.l (cs.map dR))), ("many", some (.i n)), ("total", some (.i cs.length)), ("best", some (.l (bestD (bst F (pAt cs) cs.length t)))), ("turn", some (.i t)), ("bits", some (.l ((bitsT cs.length t).map .bool))), ("index", v3), ("mass", v4), ("k", v5)] _ _
    have hbl : (bitsT cs.length t).length = cs.length := by unfold bitsT; rw [List.length_map, List.length_range]
    walk_at "go"
    refine ae_fz (ae_lc [("k", 9)] [("table", none), ("chances", none), ("many", none), ("total", none), ("best", none), ("turn", none), ("bits", some (.l ((bitsT cs.length t).map .bool))), ("index", none), ("mass", none), ("k", none)] _ hX (blkOk_cx (by decide +kernel)) (.drop (.drop (.drop (.drop (.drop (.drop (.keep (by decide) (bx_vis (by decide +kernel)) (.drop (.drop (.drop .nil)))))))))) (lc_fm (i := 9) (nrG fun k => (if asg (bitsT cs.length t) k then 1 else 0) * 2 ^ ((k : Int)).toNat) (rangeA 0 cs.length) [] hX rfl (by decide) (by decide +kernel) (by decide +kernel) ?_))
    refine ai_range1 B.range ?_
    walk_at "go"
    refine ⟨_, rfl, by omega, by omega, by rw [Int.toNat_natCast], Le.refl _, by rw [rangeA_len]; omega, fun _ _ => trivial, fun D acc c hc => ?_, fun D => ?_⟩
    · obtain ⟨j, hj0⟩ := List.mem_iff_getElem?.mp hc
      obtain ⟨hj, rfl⟩ := rangeA_get hj0
      clear hj0
      refine ⟨_, (.there (.there (.there (.there (.there (.there (.there (.there (.there (.here)))))))))), fun X' hx' => ⟨fun _ => ?_, fun z => by cases z⟩⟩
      rintro X' ⟨s', H', C', cl', fp', rfl⟩
      rw [Int.zero_add]
      show AE _ _ _ [("table", none), ("chances", none), ("many", none), ("total", none), ("best", none), ("turn", none), ("bits", some (.l ((bitsT cs.length t).map .bool))), ("index", none), ("mass", none), ("k", some (.i j))] _ _
      have hbj : atI ((bitsT cs.length t).map PyData.bool) (j : Int) = some (.bool (asg (bitsT cs.length t) j)) := atI_nat (by
        unfold asg
        rw [List.getElem?_map, List.getD_eq_getElem?_getD, List.getElem?_eq_getElem (by omega)]; rfl)
      walk_at "go"
      refine ia_l hbj ?_
      walk_at "go"
      refine ba_shl ⟨Int.natCast_nonneg _, by omega, by cases asg (bitsT cs.length t) j <;> decide⟩ ?_
      exact ⟨by show some (A.i ((if asg (bitsT cs.length t) ((j : Int)).toNat then 1 else 0) * 2 ^ (((((j : Int)).toNat : Nat) : Int)).toNat)) = _; simp only [Int.toNat_natCast], _, .here, Le.refl _⟩
    rw [nrG_eq]
    refine ⟨D, _, _, _, rfl, .here, AsD.map _, ?_⟩
    walk_at "go"
    refine ca_sum_l rfl ?_
    rw [idxT_sum]
    walk_at "go"
    refine ba_shl ⟨Int.natCast_nonneg _, by omega, by decide⟩ ?_
    rw [two_shl]
    walk_at "go"
    refine ba_band ?_
    have hp2 : 0 < 2 ^ n := Nat.pow_pos (by decide)
    rw [show ((2 ^ n : Nat) : Int) - 1 = ((2 ^ n - 1 : Nat) : Int) by omega, bitAnd_pp (Int.natCast_nonneg _) (Int.natCast_nonneg _), Int.toNat_natCast, Int.toNat_natCast, Nat.and_two_pow_sub_one_eq_mod]
    refine ia_l (tabD_at F (Nat.mod_lt _ hp2)) ?_
    have eF : F (bitF n (idxT (asg (bitsT cs.length t)) cs.length % 2 ^ n)) = F (asg (bitsT cs.length t)) := hF _ _ fun l hl => by
      rw [bitF_test, Nat.testBit_mod_two_pow, idxT_bit, decide_eq_true hl, decide_eq_true (show l < cs.length by omega)]; simp
    rw [eF]
    have eM : massN (pAt cs) (bitF cs.length (idxT (asg (bitsT cs.length t)) cs.length)) cs.length = massN (pAt cs) (asg (bitsT cs.length t)) cs.length := massN_congr _ fun l hl => by
      rw [bitF_test, idxT_bit, decide_eq_true hl]; simp
    have step : bst F (pAt cs) cs.length (t + 1) = cmb (bst F (pAt cs) cs.length t) (if F (asg (bitsT cs.length t)) = true then some (bitsT cs.length t, massN (pAt cs) (asg (bitsT cs.length t)) cs.length) else none) := rfl
    refine ⟨_, rfl, fun hv => ?_, fun hv => ?_⟩
    · rw [if_pos hv] at step
      walk_at "go"
      refine ⟨_, cs, rfl, by omega, h6, ?_⟩
      rw [eM]
      have rbm : RB (massN (pAt cs) (asg (bitsT cs.length t)) cs.length) := RB.of (massD cs _ _) (mass01 hc.c01 _ _).1 (mass01 hc.c01 _ _).2 (dpr_pos cs _ _) (hc.sm _ _)
      generalize massN (pAt cs) (asg (bitsT cs.length t)) cs.length = m at rbm step ⊢
      have r1 := rbm.n
      have r2 := rbm.d
      show AG _ _ _ (A.d (dR m)) _ _ _
      cases eo : bst F (pAt cs) cs.length t with
      | none =>
        rw [eo] at step
        walk_at "go"
        refine ⟨le_two, fun q => ⟨q, _, _, _, rfl, .here, (.cons (.cons .nil)), ?_⟩⟩
        walk_at "go"
        refine Wk.self ⟨_, _, _, _, _, by omega, fun b m' z => ?_, by rw [step]; rfl, rfl⟩
        rw [step] at z; cases z; exact rbm
      | some bm =>
        obtain ⟨b', m'⟩ := bm
        rw [eo] at step
        have rbm' := hRB _ _ eo
        have r3 := rbm'.n
        have r4 := rbm'.d
        walk_at "go"
        have hlt := Rat.lt_iff m' m
        have stp : cmb (some (b', m')) (some (bitsT cs.length t, m)) = if m' < m then some (bitsT cs.length t, m) else some (b', m') := rfl
        rw [stp] at step
        refine ⟨fun hg => ?_, fun hg => ?_⟩
        · have hg := hlt.mpr (of_decide_eq_true hg)
          rw [if_pos hg] at step
          walk_at "go"
          refine ⟨le_two, fun q => ⟨q, _, _, _, rfl, .here, (.cons (.cons .nil)), ?_⟩⟩
          walk_at "go"
          refine Wk.self ⟨_, _, _, _, _, by omega, fun b m' z => ?_, by rw [step]; rfl, rfl⟩
          rw [step] at z; cases z; exact rbm
        · have hg := mt hlt.mp (of_decide_eq_false hg)
          rw [if_neg hg] at step
          walk_at "go"
          refine Wk.self ⟨_, _, _, _, _, by omega, fun b m' z => ?_, by rw [step], rfl⟩
          rw [step] at z; cases z; exact rbm'
    · rw [if_neg (by rw [hv]; decide)] at step
      walk_at "go"
      refine Wk.self ⟨_, _, _, _, _, by omega, fun b m' z => hRB b m' (by rw [step] at z; exact z), by rw [step]; rfl, rfl⟩
  · rintro δ R ⟨v1, v2, v3, v4, v5, htl, hRB, rfl, rfl⟩
    rw [rangeA_len, Int.toNat_natCast]
    walk_at "go"
    exact ⟨_, Le.refl _, kont⟩
def spTheLaw : ASp := fun xs R post _ => ∃ ns : List Int, xs = [.l (ns.map .int)] ∧ R = [] ∧ ns.length ≤ 63 ∧ post (.b true) []
theorem half_num : (1 / 2 : Rat).num = 1 ∧ (1 / 2 : Rat).den = 2 := by decide +kernel
theorem nod_best {BB : List Bool} (h : BB.length < 1000000) (m : Rat) : nod (.tuple [.list (BB.map .bool), dR m]) = true ∧ dpt (.tuple [.list (BB.map .bool), dR m]) ≤ 2 := by
  have e1 : nodL (BB.map .bool) = true ∧ dptL (BB.map .bool) = 0 := by
    clear h
    induction BB with
    | nil => exact ⟨by simp [nodL], by simp [dptL]⟩
    | cons b r ih => exact ⟨by rw [List.map_cons, nodL, ih.1]; simp [nod], by rw [List.map_cons, dptL, ih.2]; simp [dpt]⟩
  have e2 := nod_dR m
  have e3 : nod (.list (BB.map .bool)) = true := by rw [nod, e1.1, decide_eq_true (by rw [List.length_map]; exact h)]; rfl
  refine ⟨?_, ?_⟩
  · rw [nod, nodL, nodL, nodL, e3, e2.1]; rfl
  · rw [dpt, dptL, dptL, dptL, dpt, e1.2, e2.2]; decide
theorem dR_half : dR (1 / 2) = .tuple [.int 1, .int 2] := by unfold dR; rw [half_num.1, half_num.2]; rfl
theorem ok_law {f : Addr} {fd : FuncData} (F : Fun K "law" "law" s_law f fd) (B : Blt mg) (T2 : StoC K mg CS) (m0 : Cal P w K mg base 1 "_law_pool" ["script"] spLawPool) (md : Cal P w K mg base 2 "_law_draw" ["pool", "many"] spLawDraw) (m1 : Kcal P w K mg base 1 "Store" CS ["self"] (spStInit CS))
    (m2 : Cal P w K mg base 3 "_law_chances" ["pool", "many"] spLawChances) (m3 : Cal P w K mg base 7 "_law_made" ["pool", "store", "levels", "most"] (spMade CS)) (m4 : Cal P w K mg base 4 "_law_best" ["table", "chances", "many"] spLBest) (m5 : Cal P w K mg base 3 "_law_same" ["actual", "due"] (spSame 2))
    (m6 : Cal P w K mg base 6 "likeliest" ["store", "a", "chances"] (spLik CS CE)) (cE : ExcC K mg "NoEvidence" CE) : FnOk P w K mg base (L2.CX P w) 8 f fd ["script"] (spOf K spTheLaw) := by
  have bLen := B.len
  have bInt := B.int
  have bList := B.list
  have bRange := B.range
  refine okA F sc_law lc_law (fun xs R q e h => ?_) ?_
  · obtain ⟨ns, rfl, _⟩ := h; rfl
  rintro X hX hU hr ⟨cdv, Ar, outer, s, H, E, rfl⟩ xs R post exc ⟨ns, rfl, rfl, hns, kont⟩
  show ASs _ _ (defBody s_law) [("script", some (.l (ns.map .int))), ("pool", none), ("many", none), ("store", none), ("made", none), ("chances", none), ("k", none), ("due", none), ("raised", none), ("told", none), ("one", none)] _ _
  have hsz : 2000000 < sizeLine := by decide
  walk_at "go"
  refine ⟨[], [], .nil, ns, rfl, rfl, hns, fun pa pb salt => ?_⟩
  show AG _ _ _ _ _ (Pl.rs pa pb ⟨ns, 0, 0, 0, salt⟩) _
  walk_at "go"
  refine fsp_draw (by walk_at "rem") (by walk_at "rem") (by omega) (by omega) (Nat.zero_le _) (fun z p1 a1 a2 a3 a4 => ?_)
  obtain ⟨n, rfl⟩ := Int.eq_ofNat_of_zero_le a1
  have hn : n ≤ 4 := by omega
  walk_at "go"
  refine ae_make0 m1 hr (by decide) (fun sp => ?_)
  refine ⟨[(sp, .ins CS [])], _, .cons .here .nil, sp, rfl, rfl, fun a ha => ⟨rfl, ?_⟩⟩
  subst ha
  show AG _ _ _ _ _ (Sto.rx CS a ⟨[], []⟩ (Pl.rs pa pb p1)) _
  walk_at "go"
  refine ⟨n, rfl, by omega, fun q1 => ⟨q1, _, _, _, rfl, .here, AsD.nats _, ?_⟩⟩
  walk_at "go"
  refine ⟨(pa, p1.res pb) :: (pb, p1.lst) :: Sto.rs CS a ⟨[], []⟩, _, by walk_at "spl", a, pa, pb, p1, n, 6, rfl, rfl, a4, by omega, by omega, fun p2 T rs q b1 b2 hT hl hl2 => ?_⟩
  show AG _ _ _ _ _ ((q, .lst [.l (rs.map fun v : Nat => .int v), .l (rs.map fun r => .list (tabD n fun β => ev T.N β r))]) :: (pa, p2.res pb) :: (pb, p2.lst) :: Sto.rs CS a T) _
  refine ag_name hX (by walk_at "mem") (by walk_at "up") ?_
  show ASs _ _ _ _ _ _
  refine as_fz (.there (.there (.there (.there (.here))))) (.there (.there (.there (.there (.here))))) .here (.cons (.cons .nil)) hX.nd ?_
  walk_at "go"
  refine fsp_draw (by walk_at "rem") (by walk_at "rem") (by omega) (by omega) b2 (fun d p3 c1 c2 c3 c4 => ?_)
  obtain ⟨d, rfl⟩ := Int.eq_ofNat_of_zero_le c1
  walk_at "go"
  refine ⟨Pl.rs pa pb p3, _, by walk_at "spl", pa, pb, p3, n + d, rfl, rfl, by omega, c4, fun p4 cs0 q4 d1 d2 d3 d4 => ?_⟩
  show AG _ _ _ _ _ ((q4, .lst (cs0.map fun c => A.d (dR c))) :: (pa, p4.res pb) :: (pb, p4.lst) :: Sto.rs CS a T) _
  refine ag_name hX (by walk_at "mem") (by walk_at "up") ?_
  show ASs _ _ _ _ _ _
  refine as_fz (.there (.there (.there (.there (.there (.here)))))) (.there (.there (.there (.there (.there (.here)))))) .here (AsD.map2 cs0 dR) hX.nd ?_
  have hcl0 : cs0.length = n + d := d3
  walk_at "go"
  refine as_setLc (i := 5) [("one", 10)] [("script", none), ("pool", some (.ptr pa)), ("many", none), ("store", none), ("made", none), ("chances", none), ("k", none), ("due", none), ("raised", none), ("told", none), ("one", none)] (fun j acc R => ∃ (p2 : Pl) (zs : List Rat), p2.at_ ≤ p2.ns.length ∧ acc = zs.map (fun c => A.d (dR c)) ∧ zs.length = j ∧ (∀ c ∈ zs, Ch6 c) ∧ j ≤ cs0.length ∧ R = (pa, p2.res pb) :: (pb, p2.lst) :: Sto.rs CS a T) hX (by decide) rfl rfl rfl (blkOk_cx (by decide +kernel)) (.drop (.keep (by decide) (bx_vis (by decide +kernel)) (.drop (.drop (.drop (.drop (.drop (.drop (.drop (.drop (.drop .nil)))))))))))
    (lc_st (i := 10) hX rfl (by decide) (by decide +kernel) (by decide +kernel) ?_)
  refine ai_l ?_
  walk_at "go"
  refine ⟨_, rfl, ⟨_, Le.refl _, p4, [], d2, rfl, rfl, (fun z hz => by cases hz), Nat.zero_le _, rfl⟩, fun _ _ _ _ _ => trivial, ?_, ?_⟩
  · rintro D j c acc R hj0 ⟨p6, zs, g2, rfl, g4, g5, g6, rfl⟩
    rw [List.map_map, List.getElem?_map] at hj0
    obtain ⟨q0, hj1, rfl⟩ := Option.map_eq_some_iff.mp hj0
    have hq0 := d4 q0 (List.mem_of_getElem? hj1)
    have hjl := (List.getElem?_eq_some_iff.mp hj1).1
    refine ⟨by rw [List.length_map]; omega, _, (.there (.there (.there (.there (.there (.there (.there (.there (.there (.there (.here))))))))))), ?_⟩
    rintro X' ⟨s', H', C', cl', fp', rfl⟩
    show AE _ _ _ [("script", none), ("pool", some (.ptr pa)), ("many", none), ("store", none), ("made", none), ("chances", none), ("k", none), ("due", none), ("raised", none), ("told", none), ("one", some (.d (dR q0)))] _ _
    walk_at "go"
    refine fsp_draw (by walk_at "rem") (by walk_at "rem") (by omega) (by omega) g2 (fun z p7 f1 f2 f3 f4 => ?_)
    walk_at "go"
    refine ⟨fun hz => ?_, fun hz => ?_⟩
    · walk_at "go"
      refine ⟨_, _, .there (.there .here), Le.refl _, p7, zs ++ [q0], f4, by rw [List.map_append]; rfl, by rw [List.length_append, g4]; rfl, fun y hy => ?_, by omega, rfl⟩
      rcases List.mem_append.mp hy with h | h
      · exact g5 y h
      · obtain rfl := List.mem_singleton.mp h; exact hq0
    · walk_at "go"
      refine ⟨le_two, _, _, .there (.there .here), Le.refl _, p7, zs ++ [1 / 2], f4, by rw [List.map_append, List.map_cons, List.map_nil, dR_half], by rw [List.length_append, g4]; rfl, fun y hy => ?_, by omega, rfl⟩
      rcases List.mem_append.mp hy with h | h
      · exact g5 y h
      · obtain rfl := List.mem_singleton.mp h
        exact ⟨by decide +kernel, by decide +kernel, by rw [half_num.2]; decide⟩
  rintro D acc R ⟨p5, cs, g2, rfl, g4, g5, g6, rfl⟩
  refine ⟨_, (.there (.there (.there (.there (.there (.here)))))), ?_⟩
  show ASs _ _ _ _ _ _
  refine as_fz (.there (.there (.there (.there (.there (.here)))))) (.there (.there (.there (.there (.there (.here)))))) .here (AsD.map2 cs dR) hX.nd ?_
  have hcl : cs.length = n + d := by
    rw [g4, List.length_map, List.length_map]; exact hcl0
  have hc := chS_of g5 (by omega)
  have h1l : 2 ≤ rs.length := hl2
  walk_at "go"
  refine as_for (fun i δ R => ∃ (v1 v2 v3 v4 v5 : Option AL.A), i ≤ rs.length ∧ δ = ([("script", some (.l (ns.map .int))), ("pool", some (.ptr pa)), ("many", some (.i n)), ("store", some (.ptr a.s)), ("made", some (.l [.list (rs.map fun v : Nat => .int v), .list (rs.map fun r => .list (tabD n fun β => ev T.N β r))])), ("chances", some (.l (cs.map dR))), ("k", v1), ("due", v2), ("raised", v3), ("told", v4), ("one", v5)] : SL) ∧
    R = Sto.rx CS a T [(pa, p5.res pb), (pb, p5.lst)]) hX ?_
  refine ai_range1 B.range ?_
  walk_at "go"
  rw [List.length_map]
  refine ⟨_, rfl, by omega, by omega, ⟨_, _, Le.perm (List.perm_append_comm (l₁ := [(pa, p5.res pb), (pb, p5.lst)]) (l₂ := Sto.rs CS a T)), Fg.refl _, none, none, none, none, none, Nat.zero_le _, rfl, rfl⟩, fun _ _ _ _ => trivial, ?_, ?_⟩
  · rintro i z δ R hi0 ⟨v1, v2, v3, v4, v5, hin, rfl, rfl⟩
    obtain ⟨hi, rfl⟩ := rangeA_get hi0
    clear hi0
    rw [Int.toNat_natCast] at hi
    rw [Int.zero_add]
    have hg : rs[i]? = some (rs.getD i 0) := by rw [List.getD_eq_getElem?_getD, List.getElem?_eq_getElem hi]; rfl
    have xa : atI (rs.map fun v : Nat => PyData.int v) (i : Int) = some (.int ((rs.getD i 0 : Nat) : Int)) := atI_nat (by rw [List.getElem?_map, hg]; rfl)
    have xt : atI (rs.map fun r => PyData.list (tabD n fun β => ev T.N β r)) (i : Int) = some (.list (tabD n fun β => ev T.N β (rs.getD i 0))) := atI_nat (by rw [List.getElem?_map, hg]; rfl)
    have xl : rs.getD i 0 < T.N.length + 2 := hT.lt _ (List.mem_of_getElem? hg)
    generalize rs.getD i 0 = x at xa xt xl
    walk_at "go"
    refine ia_l xt ?_
    walk_at "go"
    refine ⟨n, fun β => ev T.N β x, cs, rfl, by omega, by omega, by omega, g5, fun β γ h => ev_below hT.ok.nodes h _ xl, ?_⟩
    rw [bst_eq hT.ok.nodes hT.red (show n ≤ cs.length by omega) hc.c01 xl]
    generalize hm : mxA T.N (pAt cs) cs.length 0 x = m
    generalize hBB : (if m = 0 then lstB T.N cs.length 0 x else grB T.N (pAt cs) cs.length 0 x) = BB
    have hBl : BB.length ≤ 1000 := by
      rw [← hBB]
      have e1 : ∀ k l a, (lstB T.N k l a).length = k := fun k => by
        induction k with
        | zero => intro l a; rfl
        | succ k ih => intro l a; show _ + 1 = _; rw [ih]
      have e2 : ∀ k l a, (grB T.N (pAt cs) k l a).length = k := fun k => by
        induction k with
        | zero => intro l a; rfl
        | succ k ih => intro l a; show _ + 1 = _; rw [ih]
      split
      · rw [e1]; omega
      · rw [e2]; omega
    walk_at "goT"
    refine as_cutS (fun δ R => δ = ([("script", some (.l (ns.map .int))), ("pool", some (.ptr pa)), ("many", some (.i n)), ("store", some (.ptr a.s)), ("made", some (.l [.list (rs.map fun v : Nat => .int v), .list (rs.map fun r => .list (tabD n fun β => ev T.N β r))])), ("chances", some (.l (cs.map dR))), ("k", some (.i i)), ("due", some (.l (bestD (if x = 0 then none else some (BB, m))))), ("raised", some (.b (decide (x = 0)))), ("told", some (.d (if x = 0 then .none else .tuple [.list (BB.map .bool), dR m]))), ("one", v5)] : SL) ∧ R = Sto.rx CS a T [(pa, p5.res pb), (pb, p5.lst)]) ?_ ?_
    · refine as_try cE hX hU (S := fun d δ R => x = 0 ∧ δ = ([("script", some (.l (ns.map .int))), ("pool", some (.ptr pa)), ("many", some (.i n)), ("store", some (.ptr a.s)), ("made", some (.l [.list (rs.map fun v : Nat => .int v), .list (rs.map fun r => .list (tabD n fun β => ev T.N β r))])), ("chances", some (.l (cs.map dR))), ("k", some (.i i)), ("due", some (.l (bestD (if x = 0 then none else some (BB, m))))), ("raised", some (.b false)), ("told", some (.n)), ("one", v5)] : SL) ∧ Le R (Sto.rx CS a T [(pa, p5.res pb), (pb, p5.lst)])) ?_ ?_
      · intro pn xe hX' hU'
        walk_at "go"
        refine ia_l xa ?_
        walk_at "go"
        refine ⟨Sto.rs CS a T, _, by walk_at "spl", a, T, n, x, cs, rfl, rfl, hT.ok.nodes, by omega, xl, by have := hT.nl; omega, hc, fun h0 R' hl => ?_, fun h0 => ?_⟩
        · exact ⟨true, cE.e, fun _ => ⟨h0, rfl, Le.app hl _⟩, fun z => by cases z⟩
        · rw [hm, hBB]
          show AG _ _ _ _ _ (Sto.rx CS a T [(pa, p5.res pb), (pb, p5.lst)]) _
          walk_at "go"
          refine Wk.self ⟨?_, rfl⟩
          rw [decide_eq_false h0, if_neg h0, if_neg h0]
      · rintro ad pn d δ' R' ⟨h0, rfl, hle⟩
        refine as_weak hle (Fg.refl _) ?_
        walk_at "go"
        refine ag_nameS hX (by walk_at "mem") (by walk_at "up") ?_
        walk_at "go"
        refine Wk.self ⟨?_, rfl⟩
        rw [decide_eq_true h0, if_pos h0, if_pos h0]
    · rintro δ R ⟨rfl, rfl⟩
      by_cases h0 : x = 0
      · rw [decide_eq_true h0, if_pos h0, if_pos h0]
        walk_at "go"
        exact ⟨_, _, Le.refl _, Fg.refl _, _, _, _, _, _, by omega, rfl, rfl⟩
      · rw [decide_eq_false h0, if_neg h0, if_neg h0]
        walk_at "go"
        refine ⟨le_two, ?_⟩
        walk_at "go"
        obtain ⟨q1, q2⟩ := nod_best (BB := BB) (by omega) m
        refine ⟨_, _, rfl, q1, q1, q2, fun bb hbb => ?_⟩
        obtain rfl := hbb.mpr rfl
        walk_at "go"
        exact ⟨_, _, Le.refl _, Fg.refl _, _, _, _, _, _, by omega, rfl, rfl⟩
  · rintro δ R ⟨v1, v2, v3, v4, v5, hin, rfl, rfl⟩
    walk_at "go"
    exact ⟨_, Le.nil _, kont⟩
end

end
/-! ### what the top has left, the end -/
theorem all_mk {l : PySem.W.OpenLaw} {w : World} {K : PySem.W.Frag} {h : Heap} {mg : Str → Option Value} {fa f1 f2 f3 f4 f5 f6 f7 f8 f9 f10 f11 f12 f13 f14 f15 f16 f17 f18 f19 f20 f21 f22 f23 f24 f25 f26 f27 f28 f29 CS f30 f31 f32 f33 f34 f35 f36 f37 f38 f39 f40 f41 f42 f43 f44 f45 f46 CE pZERO pONE : Addr} (X : K.In h) (G : h.Ns mainGlobals mg) (hfa : mg "law" = some (.ref fa))
    {od1 an1 : Option Addr} {sl1 : Array (Option Value)} {oc1 kV1 dc1 pm1 cd1 ct1 : Value}
    {od2 an2 : Option Addr} {sl2 : Array (Option Value)} {oc2 kV2 dc2 pm2 cd2 ct2 : Value}
    {od3 an3 : Option Addr} {sl3 : Array (Option Value)} {oc3 kV3 dc3 pm3 cd3 ct3 : Value}
    {od4 an4 : Option Addr} {sl4 : Array (Option Value)} {oc4 kV4 dc4 pm4 cd4 ct4 : Value}
    {od5 an5 : Option Addr} {sl5 : Array (Option Value)} {oc5 kV5 dc5 pm5 cd5 ct5 : Value}
    {od6 an6 : Option Addr} {sl6 : Array (Option Value)} {oc6 kV6 dc6 pm6 cd6 ct6 : Value}
    {od7 an7 : Option Addr} {sl7 : Array (Option Value)} {oc7 kV7 dc7 pm7 cd7 ct7 : Value}
    {od8 an8 : Option Addr} {sl8 : Array (Option Value)} {oc8 kV8 dc8 pm8 cd8 ct8 : Value}
    {od9 an9 : Option Addr} {sl9 : Array (Option Value)} {oc9 kV9 dc9 pm9 cd9 ct9 : Value}
    {od10 an10 : Option Addr} {sl10 : Array (Option Value)} {oc10 kV10 dc10 pm10 cd10 ct10 : Value}
    {od11 an11 : Option Addr} {sl11 : Array (Option Value)} {oc11 kV11 dc11 pm11 cd11 ct11 : Value}
    {od12 an12 : Option Addr} {sl12 : Array (Option Value)} {oc12 kV12 dc12 pm12 cd12 ct12 : Value}
    {od13 an13 : Option Addr} {sl13 : Array (Option Value)} {oc13 kV13 dc13 pm13 cd13 ct13 : Value}
    {od14 an14 : Option Addr} {sl14 : Array (Option Value)} {oc14 kV14 dc14 pm14 cd14 ct14 : Value}
    {od15 an15 : Option Addr} {sl15 : Array (Option Value)} {oc15 kV15 dc15 pm15 cd15 ct15 : Value}
    {od16 an16 : Option Addr} {sl16 : Array (Option Value)} {oc16 kV16 dc16 pm16 cd16 ct16 : Value}
    {od17 an17 : Option Addr} {sl17 : Array (Option Value)} {oc17 kV17 dc17 pm17 cd17 ct17 : Value}
    {od18 an18 : Option Addr} {sl18 : Array (Option Value)} {oc18 kV18 dc18 pm18 cd18 ct18 : Value}
    {od19 an19 : Option Addr} {sl19 : Array (Option Value)} {oc19 kV19 dc19 pm19 cd19 ct19 : Value}
    {od20 an20 : Option Addr} {sl20 : Array (Option Value)} {oc20 kV20 dc20 pm20 cd20 ct20 : Value}
    {od21 an21 : Option Addr} {sl21 : Array (Option Value)} {oc21 kV21 dc21 pm21 cd21 ct21 : Value}
    {od22 an22 : Option Addr} {sl22 : Array (Option Value)} {oc22 kV22 dc22 pm22 cd22 ct22 : Value}
    {od23 an23 : Option Addr} {sl23 : Array (Option Value)} {oc23 kV23 dc23 pm23 cd23 ct23 : Value}
    {od24 an24 : Option Addr} {sl24 : Array (Option Value)} {oc24 kV24 dc24 pm24 cd24 ct24 : Value}
    {od25 an25 : Option Addr} {sl25 : Array (Option Value)} {oc25 kV25 dc25 pm25 cd25 ct25 : Value}
    {od26 an26 : Option Addr} {sl26 : Array (Option Value)} {oc26 kV26 dc26 pm26 cd26 ct26 : Value}
    {od27 an27 : Option Addr} {sl27 : Array (Option Value)} {oc27 kV27 dc27 pm27 cd27 ct27 : Value}
    {od28 an28 : Option Addr} {sl28 : Array (Option Value)} {oc28 kV28 dc28 pm28 cd28 ct28 : Value}
    {od29 an29 : Option Addr} {sl29 : Array (Option Value)} {oc29 kV29 dc29 pm29 cd29 ct29 : Value}
    {od30 an30 : Option Addr} {sl30 : Array (Option Value)} {oc30 kV30 dc30 pm30 cd30 ct30 : Value}
    {od31 an31 : Option Addr} {sl31 : Array (Option Value)} {oc31 kV31 dc31 pm31 cd31 ct31 : Value}
    {od32 an32 : Option Addr} {sl32 : Array (Option Value)} {oc32 kV32 dc32 pm32 cd32 ct32 : Value}
    {od33 an33 : Option Addr} {sl33 : Array (Option Value)} {oc33 kV33 dc33 pm33 cd33 ct33 : Value}
    {od34 an34 : Option Addr} {sl34 : Array (Option Value)} {oc34 kV34 dc34 pm34 cd34 ct34 : Value}
    {od35 an35 : Option Addr} {sl35 : Array (Option Value)} {oc35 kV35 dc35 pm35 cd35 ct35 : Value}
    {od36 an36 : Option Addr} {sl36 : Array (Option Value)} {oc36 kV36 dc36 pm36 cd36 ct36 : Value}
    {od37 an37 : Option Addr} {sl37 : Array (Option Value)} {oc37 kV37 dc37 pm37 cd37 ct37 : Value}
    {od38 an38 : Option Addr} {sl38 : Array (Option Value)} {oc38 kV38 dc38 pm38 cd38 ct38 : Value}
    {od39 an39 : Option Addr} {sl39 : Array (Option Value)} {oc39 kV39 dc39 pm39 cd39 ct39 : Value}
    {od40 an40 : Option Addr} {sl40 : Array (Option Value)} {oc40 kV40 dc40 pm40 cd40 ct40 : Value}
    {od41 an41 : Option Addr} {sl41 : Array (Option Value)} {oc41 kV41 dc41 pm41 cd41 ct41 : Value}
    {od42 an42 : Option Addr} {sl42 : Array (Option Value)} {oc42 kV42 dc42 pm42 cd42 ct42 : Value}
    {od43 an43 : Option Addr} {sl43 : Array (Option Value)} {oc43 kV43 dc43 pm43 cd43 ct43 : Value}
    {od44 an44 : Option Addr} {sl44 : Array (Option Value)} {oc44 kV44 dc44 pm44 cd44 ct44 : Value}
    {od45 an45 : Option Addr} {sl45 : Array (Option Value)} {oc45 kV45 dc45 pm45 cd45 ct45 : Value}
    {od46 an46 : Option Addr} {sl46 : Array (Option Value)} {oc46 kV46 dc46 pm46 cd46 ct46 : Value}
    {tFALSE : Nat}
    {tTRUE : Nat}
    {tUNKNOWN : Nat}
    {odZERO : Option Addr} {slZERO : Array (Option Value)} {nZERO : Nat} {tZERO0 tZERO1 : Nat}
    {odONE : Option Addr} {slONE : Array (Option Value)} {nONE : Nat} {tONE0 tONE1 : Nat}
    (a1 : PySem.W.nsIn K mainGlobals "ratio" = some (some (.ref f1)))
    (l1 : K.lookup f1 = some ⟨oc1, od1, .func (PySem.W.fnOf "ratio" "ratio" (defArgs s_ratio) (defBody s_ratio) (defScope s_ratio) .none kV1 dc1 pm1 an1 cd1 ct1), sl1⟩)
    (c1 : PySem.W.codeIn K cd1 "ratio" = true)
    (k1 : PySem.W.keepIn K (.ref f1) = true)
    (a2 : PySem.W.nsIn K mainGlobals "minus" = some (some (.ref f2)))
    (l2 : K.lookup f2 = some ⟨oc2, od2, .func (PySem.W.fnOf "minus" "minus" (defArgs s_minus) (defBody s_minus) (defScope s_minus) .none kV2 dc2 pm2 an2 cd2 ct2), sl2⟩)
    (c2 : PySem.W.codeIn K cd2 "minus" = true)
    (k2 : PySem.W.keepIn K (.ref f2) = true)
    (a3 : PySem.W.nsIn K mainGlobals "times" = some (some (.ref f3)))
    (l3 : K.lookup f3 = some ⟨oc3, od3, .func (PySem.W.fnOf "times" "times" (defArgs s_times) (defBody s_times) (defScope s_times) .none kV3 dc3 pm3 an3 cd3 ct3), sl3⟩)
    (c3 : PySem.W.codeIn K cd3 "times" = true)
    (k3 : PySem.W.keepIn K (.ref f3) = true)
    (a4 : PySem.W.nsIn K mainGlobals "over" = some (some (.ref f4)))
    (l4 : K.lookup f4 = some ⟨oc4, od4, .func (PySem.W.fnOf "over" "over" (defArgs s_over) (defBody s_over) (defScope s_over) .none kV4 dc4 pm4 an4 cd4 ct4), sl4⟩)
    (c4 : PySem.W.codeIn K cd4 "over" = true)
    (k4 : PySem.W.keepIn K (.ref f4) = true)
    (a5 : PySem.W.nsIn K mainGlobals "compare" = some (some (.ref f5)))
    (l5 : K.lookup f5 = some ⟨oc5, od5, .func (PySem.W.fnOf "compare" "compare" (defArgs s_compare) (defBody s_compare) (defScope s_compare) .none kV5 dc5 pm5 an5 cd5 ct5), sl5⟩)
    (c5 : PySem.W.codeIn K cd5 "compare" = true)
    (k5 : PySem.W.keepIn K (.ref f5) = true)
    (a6 : PySem.W.nsIn K mainGlobals "rest" = some (some (.ref f6)))
    (l6 : K.lookup f6 = some ⟨oc6, od6, .func (PySem.W.fnOf "rest" "rest" (defArgs s_rest) (defBody s_rest) (defScope s_rest) .none kV6 dc6 pm6 an6 cd6 ct6), sl6⟩)
    (c6 : PySem.W.codeIn K cd6 "rest" = true)
    (k6 : PySem.W.keepIn K (.ref f6) = true)
    (a7 : PySem.W.nsIn K mainGlobals "better" = some (some (.ref f7)))
    (l7 : K.lookup f7 = some ⟨oc7, od7, .func (PySem.W.fnOf "better" "better" (defArgs s_better) (defBody s_better) (defScope s_better) .none kV7 dc7 pm7 an7 cd7 ct7), sl7⟩)
    (c7 : PySem.W.codeIn K cd7 "better" = true)
    (k7 : PySem.W.keepIn K (.ref f7) = true)
    (a8 : PySem.W.nsIn K mainGlobals "best_masses" = some (some (.ref f8)))
    (l8 : K.lookup f8 = some ⟨oc8, od8, .func (PySem.W.fnOf "best_masses" "best_masses" (defArgs s_best_masses) (defBody s_best_masses) (defScope s_best_masses) .none kV8 dc8 pm8 an8 cd8 ct8), sl8⟩)
    (c8 : PySem.W.codeIn K cd8 "best_masses" = true)
    (k8 : PySem.W.keepIn K (.ref f8) = true)
    (a9 : PySem.W.nsIn K mainGlobals "side" = some (some (.ref f9)))
    (l9 : K.lookup f9 = some ⟨oc9, od9, .func (PySem.W.fnOf "side" "side" (defArgs s_side) (defBody s_side) (defScope s_side) .none kV9 dc9 pm9 an9 cd9 ct9), sl9⟩)
    (c9 : PySem.W.codeIn K cd9 "side" = true)
    (k9 : PySem.W.keepIn K (.ref f9) = true)
    (a10 : PySem.W.nsIn K mainGlobals "gap" = some (some (.ref f10)))
    (l10 : K.lookup f10 = some ⟨oc10, od10, .func (PySem.W.fnOf "gap" "gap" (defArgs s_gap) (defBody s_gap) (defScope s_gap) .none kV10 dc10 pm10 an10 cd10 ct10), sl10⟩)
    (c10 : PySem.W.codeIn K cd10 "gap" = true)
    (k10 : PySem.W.keepIn K (.ref f10) = true)
    (a11 : PySem.W.nsIn K mainGlobals "least_bits" = some (some (.ref f11)))
    (l11 : K.lookup f11 = some ⟨oc11, od11, .func (PySem.W.fnOf "least_bits" "least_bits" (defArgs s_least_bits) (defBody s_least_bits) (defScope s_least_bits) .none kV11 dc11 pm11 an11 cd11 ct11), sl11⟩)
    (c11 : PySem.W.codeIn K cd11 "least_bits" = true)
    (k11 : PySem.W.keepIn K (.ref f11) = true)
    (a12 : PySem.W.nsIn K mainGlobals "best_bits" = some (some (.ref f12)))
    (l12 : K.lookup f12 = some ⟨oc12, od12, .func (PySem.W.fnOf "best_bits" "best_bits" (defArgs s_best_bits) (defBody s_best_bits) (defScope s_best_bits) .none kV12 dc12 pm12 an12 cd12 ct12), sl12⟩)
    (c12 : PySem.W.codeIn K cd12 "best_bits" = true)
    (k12 : PySem.W.keepIn K (.ref f12) = true)
    (a13 : PySem.W.nsIn K mainGlobals "likeliest" = some (some (.ref f13)))
    (l13 : K.lookup f13 = some ⟨oc13, od13, .func (PySem.W.fnOf "likeliest" "likeliest" (defArgs s_likeliest) (defBody s_likeliest) (defScope s_likeliest) .none kV13 dc13 pm13 an13 cd13 ct13), sl13⟩)
    (c13 : PySem.W.codeIn K cd13 "likeliest" = true)
    (k13 : PySem.W.keepIn K (.ref f13) = true)
    (a14 : PySem.W.nsIn K mainGlobals "_law_same" = some (some (.ref f14)))
    (l14 : K.lookup f14 = some ⟨oc14, od14, .func (PySem.W.fnOf "_law_same" "_law_same" (defArgs s__law_same) (defBody s__law_same) (defScope s__law_same) .none kV14 dc14 pm14 an14 cd14 ct14), sl14⟩)
    (c14 : PySem.W.codeIn K cd14 "_law_same" = true)
    (k14 : PySem.W.keepIn K (.ref f14) = true)
    (a15 : PySem.W.nsIn K mainGlobals "_law_pool" = some (some (.ref f15)))
    (l15 : K.lookup f15 = some ⟨oc15, od15, .func (PySem.W.fnOf "_law_pool" "_law_pool" (defArgs s__law_pool) (defBody s__law_pool) (defScope s__law_pool) .none kV15 dc15 pm15 an15 cd15 ct15), sl15⟩)
    (c15 : PySem.W.codeIn K cd15 "_law_pool" = true)
    (k15 : PySem.W.keepIn K (.ref f15) = true)
    (a16 : PySem.W.nsIn K mainGlobals "_law_spread" = some (some (.ref f16)))
    (l16 : K.lookup f16 = some ⟨oc16, od16, .func (PySem.W.fnOf "_law_spread" "_law_spread" (defArgs s__law_spread) (defBody s__law_spread) (defScope s__law_spread) .none kV16 dc16 pm16 an16 cd16 ct16), sl16⟩)
    (c16 : PySem.W.codeIn K cd16 "_law_spread" = true)
    (k16 : PySem.W.keepIn K (.ref f16) = true)
    (a17 : PySem.W.nsIn K mainGlobals "_law_draw" = some (some (.ref f17)))
    (l17 : K.lookup f17 = some ⟨oc17, od17, .func (PySem.W.fnOf "_law_draw" "_law_draw" (defArgs s__law_draw) (defBody s__law_draw) (defScope s__law_draw) .none kV17 dc17 pm17 an17 cd17 ct17), sl17⟩)
    (c17 : PySem.W.codeIn K cd17 "_law_draw" = true)
    (k17 : PySem.W.keepIn K (.ref f17) = true)
    (a18 : PySem.W.nsIn K mainGlobals "_law_gcd" = some (some (.ref f18)))
    (l18 : K.lookup f18 = some ⟨oc18, od18, .func (PySem.W.fnOf "_law_gcd" "_law_gcd" (defArgs s__law_gcd) (defBody s__law_gcd) (defScope s__law_gcd) .none kV18 dc18 pm18 an18 cd18 ct18), sl18⟩)
    (c18 : PySem.W.codeIn K cd18 "_law_gcd" = true)
    (k18 : PySem.W.keepIn K (.ref f18) = true)
    (a19 : PySem.W.nsIn K mainGlobals "_law_frac" = some (some (.ref f19)))
    (l19 : K.lookup f19 = some ⟨oc19, od19, .func (PySem.W.fnOf "_law_frac" "_law_frac" (defArgs s__law_frac) (defBody s__law_frac) (defScope s__law_frac) .none kV19 dc19 pm19 an19 cd19 ct19), sl19⟩)
    (c19 : PySem.W.codeIn K cd19 "_law_frac" = true)
    (k19 : PySem.W.keepIn K (.ref f19) = true)
    (a20 : PySem.W.nsIn K mainGlobals "_law_chances" = some (some (.ref f20)))
    (l20 : K.lookup f20 = some ⟨oc20, od20, .func (PySem.W.fnOf "_law_chances" "_law_chances" (defArgs s__law_chances) (defBody s__law_chances) (defScope s__law_chances) .none kV20 dc20 pm20 an20 cd20 ct20), sl20⟩)
    (c20 : PySem.W.codeIn K cd20 "_law_chances" = true)
    (k20 : PySem.W.keepIn K (.ref f20) = true)
    (a21 : PySem.W.nsIn K mainGlobals "_law_coin" = some (some (.ref f21)))
    (l21 : K.lookup f21 = some ⟨oc21, od21, .func (PySem.W.fnOf "_law_coin" "_law_coin" (defArgs s__law_coin) (defBody s__law_coin) (defScope s__law_coin) .none kV21 dc21 pm21 an21 cd21 ct21), sl21⟩)
    (c21 : PySem.W.codeIn K cd21 "_law_coin" = true)
    (k21 : PySem.W.keepIn K (.ref f21) = true)
    (a22 : PySem.W.nsIn K mainGlobals "_law_mixed" = some (some (.ref f22)))
    (l22 : K.lookup f22 = some ⟨oc22, od22, .func (PySem.W.fnOf "_law_mixed" "_law_mixed" (defArgs s__law_mixed) (defBody s__law_mixed) (defScope s__law_mixed) .none kV22 dc22 pm22 an22 cd22 ct22), sl22⟩)
    (c22 : PySem.W.codeIn K cd22 "_law_mixed" = true)
    (k22 : PySem.W.keepIn K (.ref f22) = true)
    (a23 : PySem.W.nsIn K mainGlobals "_law_halves" = some (some (.ref f23)))
    (l23 : K.lookup f23 = some ⟨oc23, od23, .func (PySem.W.fnOf "_law_halves" "_law_halves" (defArgs s__law_halves) (defBody s__law_halves) (defScope s__law_halves) .none kV23 dc23 pm23 an23 cd23 ct23), sl23⟩)
    (c23 : PySem.W.codeIn K cd23 "_law_halves" = true)
    (k23 : PySem.W.keepIn K (.ref f23) = true)
    (a24 : PySem.W.nsIn K mainGlobals "_law_needs" = some (some (.ref f24)))
    (l24 : K.lookup f24 = some ⟨oc24, od24, .func (PySem.W.fnOf "_law_needs" "_law_needs" (defArgs s__law_needs) (defBody s__law_needs) (defScope s__law_needs) .none kV24 dc24 pm24 an24 cd24 ct24), sl24⟩)
    (c24 : PySem.W.codeIn K cd24 "_law_needs" = true)
    (k24 : PySem.W.keepIn K (.ref f24) = true)
    (a25 : PySem.W.nsIn K mainGlobals "_law_deed" = some (some (.ref f25)))
    (l25 : K.lookup f25 = some ⟨oc25, od25, .func (PySem.W.fnOf "_law_deed" "_law_deed" (defArgs s__law_deed) (defBody s__law_deed) (defScope s__law_deed) .none kV25 dc25 pm25 an25 cd25 ct25), sl25⟩)
    (c25 : PySem.W.codeIn K cd25 "_law_deed" = true)
    (k25 : PySem.W.keepIn K (.ref f25) = true)
    (a26 : PySem.W.nsIn K mainGlobals "_law_made" = some (some (.ref f26)))
    (l26 : K.lookup f26 = some ⟨oc26, od26, .func (PySem.W.fnOf "_law_made" "_law_made" (defArgs s__law_made) (defBody s__law_made) (defScope s__law_made) .none kV26 dc26 pm26 an26 cd26 ct26), sl26⟩)
    (c26 : PySem.W.codeIn K cd26 "_law_made" = true)
    (k26 : PySem.W.keepIn K (.ref f26) = true)
    (a27 : PySem.W.nsIn K mainGlobals "_law_mass" = some (some (.ref f27)))
    (l27 : K.lookup f27 = some ⟨oc27, od27, .func (PySem.W.fnOf "_law_mass" "_law_mass" (defArgs s__law_mass) (defBody s__law_mass) (defScope s__law_mass) .none kV27 dc27 pm27 an27 cd27 ct27), sl27⟩)
    (c27 : PySem.W.codeIn K cd27 "_law_mass" = true)
    (k27 : PySem.W.keepIn K (.ref f27) = true)
    (a28 : PySem.W.nsIn K mainGlobals "_law_best" = some (some (.ref f28)))
    (l28 : K.lookup f28 = some ⟨oc28, od28, .func (PySem.W.fnOf "_law_best" "_law_best" (defArgs s__law_best) (defBody s__law_best) (defScope s__law_best) .none kV28 dc28 pm28 an28 cd28 ct28), sl28⟩)
    (c28 : PySem.W.codeIn K cd28 "_law_best" = true)
    (k28 : PySem.W.keepIn K (.ref f28) = true)
    (a29 : PySem.W.nsIn K mainGlobals "law" = some (some (.ref f29)))
    (l29 : K.lookup f29 = some ⟨oc29, od29, .func (PySem.W.fnOf "law" "law" (defArgs s_law) (defBody s_law) (defScope s_law) .none kV29 dc29 pm29 an29 cd29 ct29), sl29⟩)
    (c29 : PySem.W.codeIn K cd29 "law" = true)
    (k29 : PySem.W.keepIn K (.ref f29) = true)
    (aCS : PySem.W.nsIn K mainGlobals "Store" = some (some (.ref CS)))
    (pgCS : PySem.W.plainGet K CS Str.empty = true)
    (hdCS : PySem.W.hasDictIn K CS = true)
    (poCS : PySem.W.plainOver K CS = true)
    (saCS : PySem.W.findIn K (.ref CS) "__setattr__" = some (some (.builtin "object.__setattr__")))
    (mkCS : PySem.W.makesIn K CS = true)
    (kcCS : PySem.W.keepIn K (.ref CS) = true)
    (nCS0 : PySem.W.findIn K (.ref CS) "_levels" = some none)
    (nCS1 : PySem.W.findIn K (.ref CS) "_lows" = some none)
    (nCS2 : PySem.W.findIn K (.ref CS) "_highs" = some none)
    (nCS3 : PySem.W.findIn K (.ref CS) "_nodes" = some none)
    (nCS4 : PySem.W.findIn K (.ref CS) "_chosen" = some none)
    (a30 : PySem.W.findIn K (.ref CS) "__init__" = some (some (.ref f30)))
    (i30 : PySem.W.isFn K (.ref f30) = true)
    (l30 : K.lookup f30 = some ⟨oc30, od30, .func (PySem.W.fnOf "__init__" "Store.__init__" (defArgs s_Store___init__) (defBody s_Store___init__) (defScope s_Store___init__) .none kV30 dc30 pm30 an30 cd30 ct30), sl30⟩)
    (c30 : PySem.W.codeIn K cd30 "Store.__init__" = true)
    (k30 : PySem.W.keepIn K (.ref f30) = true)
    (a31 : PySem.W.findIn K (.ref CS) "node" = some (some (.ref f31)))
    (i31 : PySem.W.isFn K (.ref f31) = true)
    (l31 : K.lookup f31 = some ⟨oc31, od31, .func (PySem.W.fnOf "node" "Store.node" (defArgs s_Store_node) (defBody s_Store_node) (defScope s_Store_node) .none kV31 dc31 pm31 an31 cd31 ct31), sl31⟩)
    (c31 : PySem.W.codeIn K cd31 "Store.node" = true)
    (k31 : PySem.W.keepIn K (.ref f31) = true)
    (a32 : PySem.W.findIn K (.ref CS) "coin" = some (some (.ref f32)))
    (i32 : PySem.W.isFn K (.ref f32) = true)
    (l32 : K.lookup f32 = some ⟨oc32, od32, .func (PySem.W.fnOf "coin" "Store.coin" (defArgs s_Store_coin) (defBody s_Store_coin) (defScope s_Store_coin) .none kV32 dc32 pm32 an32 cd32 ct32), sl32⟩)
    (c32 : PySem.W.codeIn K cd32 "Store.coin" = true)
    (k32 : PySem.W.keepIn K (.ref f32) = true)
    (a33 : PySem.W.findIn K (.ref CS) "level" = some (some (.ref f33)))
    (i33 : PySem.W.isFn K (.ref f33) = true)
    (l33 : K.lookup f33 = some ⟨oc33, od33, .func (PySem.W.fnOf "level" "Store.level" (defArgs s_Store_level) (defBody s_Store_level) (defScope s_Store_level) .none kV33 dc33 pm33 an33 cd33 ct33), sl33⟩)
    (c33 : PySem.W.codeIn K cd33 "Store.level" = true)
    (k33 : PySem.W.keepIn K (.ref f33) = true)
    (a34 : PySem.W.findIn K (.ref CS) "low" = some (some (.ref f34)))
    (i34 : PySem.W.isFn K (.ref f34) = true)
    (l34 : K.lookup f34 = some ⟨oc34, od34, .func (PySem.W.fnOf "low" "Store.low" (defArgs s_Store_low) (defBody s_Store_low) (defScope s_Store_low) .none kV34 dc34 pm34 an34 cd34 ct34), sl34⟩)
    (c34 : PySem.W.codeIn K cd34 "Store.low" = true)
    (k34 : PySem.W.keepIn K (.ref f34) = true)
    (a35 : PySem.W.findIn K (.ref CS) "high" = some (some (.ref f35)))
    (i35 : PySem.W.isFn K (.ref f35) = true)
    (l35 : K.lookup f35 = some ⟨oc35, od35, .func (PySem.W.fnOf "high" "Store.high" (defArgs s_Store_high) (defBody s_Store_high) (defScope s_Store_high) .none kV35 dc35 pm35 an35 cd35 ct35), sl35⟩)
    (c35 : PySem.W.codeIn K cd35 "Store.high" = true)
    (k35 : PySem.W.keepIn K (.ref f35) = true)
    (a36 : PySem.W.findIn K (.ref CS) "top_level" = some (some (.ref f36)))
    (i36 : PySem.W.isFn K (.ref f36) = true)
    (l36 : K.lookup f36 = some ⟨oc36, od36, .func (PySem.W.fnOf "top_level" "Store.top_level" (defArgs s_Store_top_level) (defBody s_Store_top_level) (defScope s_Store_top_level) .none kV36 dc36 pm36 an36 cd36 ct36), sl36⟩)
    (c36 : PySem.W.codeIn K cd36 "Store.top_level" = true)
    (k36 : PySem.W.keepIn K (.ref f36) = true)
    (a37 : PySem.W.findIn K (.ref CS) "part" = some (some (.ref f37)))
    (i37 : PySem.W.isFn K (.ref f37) = true)
    (l37 : K.lookup f37 = some ⟨oc37, od37, .func (PySem.W.fnOf "part" "Store.part" (defArgs s_Store_part) (defBody s_Store_part) (defScope s_Store_part) .none kV37 dc37 pm37 an37 cd37 ct37), sl37⟩)
    (c37 : PySem.W.codeIn K cd37 "Store.part" = true)
    (k37 : PySem.W.keepIn K (.ref f37) = true)
    (a38 : PySem.W.findIn K (.ref CS) "known_choice" = some (some (.ref f38)))
    (i38 : PySem.W.isFn K (.ref f38) = true)
    (l38 : K.lookup f38 = some ⟨oc38, od38, .func (PySem.W.fnOf "known_choice" "Store.known_choice" (defArgs s_Store_known_choice) (defBody s_Store_known_choice) (defScope s_Store_known_choice) .none kV38 dc38 pm38 an38 cd38 ct38), sl38⟩)
    (c38 : PySem.W.codeIn K cd38 "Store.known_choice" = true)
    (k38 : PySem.W.keepIn K (.ref f38) = true)
    (a39 : PySem.W.findIn K (.ref CS) "choose" = some (some (.ref f39)))
    (i39 : PySem.W.isFn K (.ref f39) = true)
    (l39 : K.lookup f39 = some ⟨oc39, od39, .func (PySem.W.fnOf "choose" "Store.choose" (defArgs s_Store_choose) (defBody s_Store_choose) (defScope s_Store_choose) .none kV39 dc39 pm39 an39 cd39 ct39), sl39⟩)
    (c39 : PySem.W.codeIn K cd39 "Store.choose" = true)
    (k39 : PySem.W.keepIn K (.ref f39) = true)
    (a40 : PySem.W.findIn K (.ref CS) "advance" = some (some (.ref f40)))
    (i40 : PySem.W.isFn K (.ref f40) = true)
    (l40 : K.lookup f40 = some ⟨oc40, od40, .func (PySem.W.fnOf "advance" "Store.advance" (defArgs s_Store_advance) (defBody s_Store_advance) (defScope s_Store_advance) .none kV40 dc40 pm40 an40 cd40 ct40), sl40⟩)
    (c40 : PySem.W.codeIn K cd40 "Store.advance" = true)
    (k40 : PySem.W.keepIn K (.ref f40) = true)
    (a41 : PySem.W.findIn K (.ref CS) "negate" = some (some (.ref f41)))
    (i41 : PySem.W.isFn K (.ref f41) = true)
    (l41 : K.lookup f41 = some ⟨oc41, od41, .func (PySem.W.fnOf "negate" "Store.negate" (defArgs s_Store_negate) (defBody s_Store_negate) (defScope s_Store_negate) .none kV41 dc41 pm41 an41 cd41 ct41), sl41⟩)
    (c41 : PySem.W.codeIn K cd41 "Store.negate" = true)
    (k41 : PySem.W.keepIn K (.ref f41) = true)
    (a42 : PySem.W.findIn K (.ref CS) "both" = some (some (.ref f42)))
    (i42 : PySem.W.isFn K (.ref f42) = true)
    (l42 : K.lookup f42 = some ⟨oc42, od42, .func (PySem.W.fnOf "both" "Store.both" (defArgs s_Store_both) (defBody s_Store_both) (defScope s_Store_both) .none kV42 dc42 pm42 an42 cd42 ct42), sl42⟩)
    (c42 : PySem.W.codeIn K cd42 "Store.both" = true)
    (k42 : PySem.W.keepIn K (.ref f42) = true)
    (a43 : PySem.W.findIn K (.ref CS) "either" = some (some (.ref f43)))
    (i43 : PySem.W.isFn K (.ref f43) = true)
    (l43 : K.lookup f43 = some ⟨oc43, od43, .func (PySem.W.fnOf "either" "Store.either" (defArgs s_Store_either) (defBody s_Store_either) (defScope s_Store_either) .none kV43 dc43 pm43 an43 cd43 ct43), sl43⟩)
    (c43 : PySem.W.codeIn K cd43 "Store.either" = true)
    (k43 : PySem.W.keepIn K (.ref f43) = true)
    (a44 : PySem.W.findIn K (.ref CS) "without" = some (some (.ref f44)))
    (i44 : PySem.W.isFn K (.ref f44) = true)
    (l44 : K.lookup f44 = some ⟨oc44, od44, .func (PySem.W.fnOf "without" "Store.without" (defArgs s_Store_without) (defBody s_Store_without) (defScope s_Store_without) .none kV44 dc44 pm44 an44 cd44 ct44), sl44⟩)
    (c44 : PySem.W.codeIn K cd44 "Store.without" = true)
    (k44 : PySem.W.keepIn K (.ref f44) = true)
    (a45 : PySem.W.findIn K (.ref CS) "either_of" = some (some (.ref f45)))
    (i45 : PySem.W.isFn K (.ref f45) = true)
    (l45 : K.lookup f45 = some ⟨oc45, od45, .func (PySem.W.fnOf "either_of" "Store.either_of" (defArgs s_Store_either_of) (defBody s_Store_either_of) (defScope s_Store_either_of) .none kV45 dc45 pm45 an45 cd45 ct45), sl45⟩)
    (c45 : PySem.W.codeIn K cd45 "Store.either_of" = true)
    (k45 : PySem.W.keepIn K (.ref f45) = true)
    (a46 : PySem.W.findIn K (.ref CS) "nodes_below" = some (some (.ref f46)))
    (i46 : PySem.W.isFn K (.ref f46) = true)
    (l46 : K.lookup f46 = some ⟨oc46, od46, .func (PySem.W.fnOf "nodes_below" "Store.nodes_below" (defArgs s_Store_nodes_below) (defBody s_Store_nodes_below) (defScope s_Store_nodes_below) .none kV46 dc46 pm46 an46 cd46 ct46), sl46⟩)
    (c46 : PySem.W.codeIn K cd46 "Store.nodes_below" = true)
    (k46 : PySem.W.keepIn K (.ref f46) = true)
    (aCE : PySem.W.nsIn K mainGlobals "NoEvidence" = some (some (.ref CE)))
    (xCE : PySem.W.excIn K CE [.type "ValueError", .type "Exception", .type "BaseException", .type "object"] "ValueError.__new__" = true)
    (kCE : PySem.W.keepIn K (.ref CE) = true)
    (bCE : PySem.W.subIn K (.ref CE) (.type "BaseException") = some true)
    (tCE : PySem.W.typeIn K (.ref CE) = some (.type "type"))
    (iCE : PySem.W.isClsIn K CE = true)
    (sCE : PySem.W.subIn K (.ref CE) (.ref CE) = some true)
    (zFALSE : PySem.W.nsIn K mainGlobals "FALSE" = some (some (.int (0) tFALSE)))
    (zTRUE : PySem.W.nsIn K mainGlobals "TRUE" = some (some (.int (1) tTRUE)))
    (zUNKNOWN : PySem.W.nsIn K mainGlobals "UNKNOWN" = some (some (.int (-1) tUNKNOWN)))
    (zZERO : PySem.W.nsIn K mainGlobals "ZERO" = some (some (.ref pZERO)))
    (yZERO : K.lookup pZERO = some ⟨.type "tuple", odZERO, .seq #[.int (0) tZERO0, .int (1) tZERO1] nZERO, slZERO⟩)
    (zONE : PySem.W.nsIn K mainGlobals "ONE" = some (some (.ref pONE)))
    (yONE : K.lookup pONE = some ⟨.type "tuple", odONE, .seq #[.int (1) tONE0, .int (1) tONE1] nONE, slONE⟩)
    (zlen : PySem.W.nsIn K mainGlobals "len" = some none)
    (zrange : PySem.W.nsIn K mainGlobals "range" = some none)
    (zint : PySem.W.nsIn K mainGlobals "int" = some none)
    (zabs : PySem.W.nsIn K mainGlobals "abs" = some none)
    (zsum : PySem.W.nsIn K mainGlobals "sum" = some none)
    (zisinstance : PySem.W.nsIn K mainGlobals "isinstance" = some none)
    (zbool : PySem.W.nsIn K mainGlobals "bool" = some none)
    (zstr : PySem.W.nsIn K mainGlobals "str" = some none)
    (zlist : PySem.W.nsIn K mainGlobals "list" = some none)
    (ztuple : PySem.W.nsIn K mainGlobals "tuple" = some none)
    (zsorted : PySem.W.nsIn K mainGlobals "sorted" = some none)
    (zmin : PySem.W.nsIn K mainGlobals "min" = some none)
    (zreversed : PySem.W.nsIn K mainGlobals "reversed" = some none)
    (zgcd : PySem.W.nsIn K mainGlobals "gcd" = some (some (.builtin "math.gcd"))) :
    ∃ fd : FuncData, (∀ (s : Shared) (v : Value), BindsTo s fd ⟨[v], []⟩ [("script", v)]) ∧ ∀ base : Heap, K.In base → base.Ns mainGlobals mg → FnOk l.prog w K mg base (L2.CX l.prog w) 8 fa fd ["script"] (spOf K spTheLaw) := by
  have e := hfa.symm.trans (PySem.W.mg_of X G a29)
  cases e
  have F1 := fun_mk (st := s_ratio) l1 c1 k1
  have b1 := F1.binds (ps := ["top", "bottom"]) fun _ _ _ _ _ _ us hl => match us, hl with | [_, _], _ => rfl
  have d_ratio : Df K mg "ratio" s_ratio ["top", "bottom"] := ⟨_, _, PySem.W.mg_of X G a1, k1, b1, F1⟩
  have F2 := fun_mk (st := s_minus) l2 c2 k2
  have b2 := F2.binds (ps := ["a", "b"]) fun _ _ _ _ _ _ us hl => match us, hl with | [_, _], _ => rfl
  have d_minus : Df K mg "minus" s_minus ["a", "b"] := ⟨_, _, PySem.W.mg_of X G a2, k2, b2, F2⟩
  have F3 := fun_mk (st := s_times) l3 c3 k3
  have b3 := F3.binds (ps := ["a", "b"]) fun _ _ _ _ _ _ us hl => match us, hl with | [_, _], _ => rfl
  have d_times : Df K mg "times" s_times ["a", "b"] := ⟨_, _, PySem.W.mg_of X G a3, k3, b3, F3⟩
  have F4 := fun_mk (st := s_over) l4 c4 k4
  have b4 := F4.binds (ps := ["a", "b"]) fun _ _ _ _ _ _ us hl => match us, hl with | [_, _], _ => rfl
  have d_over : Df K mg "over" s_over ["a", "b"] := ⟨_, _, PySem.W.mg_of X G a4, k4, b4, F4⟩
  have F5 := fun_mk (st := s_compare) l5 c5 k5
  have b5 := F5.binds (ps := ["a", "b"]) fun _ _ _ _ _ _ us hl => match us, hl with | [_, _], _ => rfl
  have d_compare : Df K mg "compare" s_compare ["a", "b"] := ⟨_, _, PySem.W.mg_of X G a5, k5, b5, F5⟩
  have F6 := fun_mk (st := s_rest) l6 c6 k6
  have b6 := F6.binds (ps := ["r"]) fun _ _ _ _ _ _ us hl => match us, hl with | [_], _ => rfl
  have d_rest : Df K mg "rest" s_rest ["r"] := ⟨_, _, PySem.W.mg_of X G a6, k6, b6, F6⟩
  have F7 := fun_mk (st := s_better) l7 c7 k7
  have b7 := F7.binds (ps := ["chance"]) fun _ _ _ _ _ _ us hl => match us, hl with | [_], _ => rfl
  have d_better : Df K mg "better" s_better ["chance"] := ⟨_, _, PySem.W.mg_of X G a7, k7, b7, F7⟩
  have F8 := fun_mk (st := s_best_masses) l8 c8 k8
  have b8 := F8.binds (ps := ["store", "a", "chances"]) fun _ _ _ _ _ _ us hl => match us, hl with | [_, _, _], _ => rfl
  have d_best_masses : Df K mg "best_masses" s_best_masses ["store", "a", "chances"] := ⟨_, _, PySem.W.mg_of X G a8, k8, b8, F8⟩
  have F9 := fun_mk (st := s_side) l9 c9 k9
  have b9 := F9.binds (ps := ["store", "a", "level", "free", "best"]) fun _ _ _ _ _ _ us hl => match us, hl with | [_, _, _, _, _], _ => rfl
  have d_side : Df K mg "side" s_side ["store", "a", "level", "free", "best"] := ⟨_, _, PySem.W.mg_of X G a9, k9, b9, F9⟩
  have F10 := fun_mk (st := s_gap) l10 c10 k10
  have b10 := F10.binds (ps := ["free", "level", "below"]) fun _ _ _ _ _ _ us hl => match us, hl with | [_, _, _], _ => rfl
  have d_gap : Df K mg "gap" s_gap ["free", "level", "below"] := ⟨_, _, PySem.W.mg_of X G a10, k10, b10, F10⟩
  have F11 := fun_mk (st := s_least_bits) l11 c11 k11
  have b11 := F11.binds (ps := ["store", "a", "chances"]) fun _ _ _ _ _ _ us hl => match us, hl with | [_, _, _], _ => rfl
  have d_least_bits : Df K mg "least_bits" s_least_bits ["store", "a", "chances"] := ⟨_, _, PySem.W.mg_of X G a11, k11, b11, F11⟩
  have F12 := fun_mk (st := s_best_bits) l12 c12 k12
  have b12 := F12.binds (ps := ["store", "a", "chances", "free", "best"]) fun _ _ _ _ _ _ us hl => match us, hl with | [_, _, _, _, _], _ => rfl
  have d_best_bits : Df K mg "best_bits" s_best_bits ["store", "a", "chances", "free", "best"] := ⟨_, _, PySem.W.mg_of X G a12, k12, b12, F12⟩
  have F13 := fun_mk (st := s_likeliest) l13 c13 k13
  have b13 := F13.binds (ps := ["store", "a", "chances"]) fun _ _ _ _ _ _ us hl => match us, hl with | [_, _, _], _ => rfl
  have d_likeliest : Df K mg "likeliest" s_likeliest ["store", "a", "chances"] := ⟨_, _, PySem.W.mg_of X G a13, k13, b13, F13⟩
  have F14 := fun_mk (st := s__law_same) l14 c14 k14
  have b14 := F14.binds (ps := ["actual", "due"]) fun _ _ _ _ _ _ us hl => match us, hl with | [_, _], _ => rfl
  have d__law_same : Df K mg "_law_same" s__law_same ["actual", "due"] := ⟨_, _, PySem.W.mg_of X G a14, k14, b14, F14⟩
  have F15 := fun_mk (st := s__law_pool) l15 c15 k15
  have b15 := F15.binds (ps := ["script"]) fun _ _ _ _ _ _ us hl => match us, hl with | [_], _ => rfl
  have d__law_pool : Df K mg "_law_pool" s__law_pool ["script"] := ⟨_, _, PySem.W.mg_of X G a15, k15, b15, F15⟩
  have F16 := fun_mk (st := s__law_spread) l16 c16 k16
  have b16 := F16.binds (ps := ["cell"]) fun _ _ _ _ _ _ us hl => match us, hl with | [_], _ => rfl
  have d__law_spread : Df K mg "_law_spread" s__law_spread ["cell"] := ⟨_, _, PySem.W.mg_of X G a16, k16, b16, F16⟩
  have F17 := fun_mk (st := s__law_draw) l17 c17 k17
  have b17 := F17.binds (ps := ["pool", "many"]) fun _ _ _ _ _ _ us hl => match us, hl with | [_, _], _ => rfl
  have d__law_draw : Df K mg "_law_draw" s__law_draw ["pool", "many"] := ⟨_, _, PySem.W.mg_of X G a17, k17, b17, F17⟩
  have F18 := fun_mk (st := s__law_gcd) l18 c18 k18
  have b18 := F18.binds (ps := ["a", "b"]) fun _ _ _ _ _ _ us hl => match us, hl with | [_, _], _ => rfl
  have d__law_gcd : Df K mg "_law_gcd" s__law_gcd ["a", "b"] := ⟨_, _, PySem.W.mg_of X G a18, k18, b18, F18⟩
  have F19 := fun_mk (st := s__law_frac) l19 c19 k19
  have b19 := F19.binds (ps := ["top", "bottom"]) fun _ _ _ _ _ _ us hl => match us, hl with | [_, _], _ => rfl
  have d__law_frac : Df K mg "_law_frac" s__law_frac ["top", "bottom"] := ⟨_, _, PySem.W.mg_of X G a19, k19, b19, F19⟩
  have F20 := fun_mk (st := s__law_chances) l20 c20 k20
  have b20 := F20.binds (ps := ["pool", "many"]) fun _ _ _ _ _ _ us hl => match us, hl with | [_, _], _ => rfl
  have d__law_chances : Df K mg "_law_chances" s__law_chances ["pool", "many"] := ⟨_, _, PySem.W.mg_of X G a20, k20, b20, F20⟩
  have F21 := fun_mk (st := s__law_coin) l21 c21 k21
  have b21 := F21.binds (ps := ["many", "k"]) fun _ _ _ _ _ _ us hl => match us, hl with | [_, _], _ => rfl
  have d__law_coin : Df K mg "_law_coin" s__law_coin ["many", "k"] := ⟨_, _, PySem.W.mg_of X G a21, k21, b21, F21⟩
  have F22 := fun_mk (st := s__law_mixed) l22 c22 k22
  have b22 := F22.binds (ps := ["test", "first", "second"]) fun _ _ _ _ _ _ us hl => match us, hl with | [_, _, _], _ => rfl
  have d__law_mixed : Df K mg "_law_mixed" s__law_mixed ["test", "first", "second"] := ⟨_, _, PySem.W.mg_of X G a22, k22, b22, F22⟩
  have F23 := fun_mk (st := s__law_halves) l23 c23 k23
  have b23 := F23.binds (ps := ["table", "k", "many"]) fun _ _ _ _ _ _ us hl => match us, hl with | [_, _, _], _ => rfl
  have d__law_halves : Df K mg "_law_halves" s__law_halves ["table", "k", "many"] := ⟨_, _, PySem.W.mg_of X G a23, k23, b23, F23⟩
  have F24 := fun_mk (st := s__law_needs) l24 c24 k24
  have b24 := F24.binds (ps := ["table", "many"]) fun _ _ _ _ _ _ us hl => match us, hl with | [_, _], _ => rfl
  have d__law_needs : Df K mg "_law_needs" s__law_needs ["table", "many"] := ⟨_, _, PySem.W.mg_of X G a24, k24, b24, F24⟩
  have F25 := fun_mk (st := s__law_deed) l25 c25 k25
  have b25 := F25.binds (ps := ["pool", "store", "refs", "tables", "levels"]) fun _ _ _ _ _ _ us hl => match us, hl with | [_, _, _, _, _], _ => rfl
  have d__law_deed : Df K mg "_law_deed" s__law_deed ["pool", "store", "refs", "tables", "levels"] := ⟨_, _, PySem.W.mg_of X G a25, k25, b25, F25⟩
  have F26 := fun_mk (st := s__law_made) l26 c26 k26
  have b26 := F26.binds (ps := ["pool", "store", "levels", "most"]) fun _ _ _ _ _ _ us hl => match us, hl with | [_, _, _, _], _ => rfl
  have d__law_made : Df K mg "_law_made" s__law_made ["pool", "store", "levels", "most"] := ⟨_, _, PySem.W.mg_of X G a26, k26, b26, F26⟩
  have F27 := fun_mk (st := s__law_mass) l27 c27 k27
  have b27 := F27.binds (ps := ["index", "chances"]) fun _ _ _ _ _ _ us hl => match us, hl with | [_, _], _ => rfl
  have d__law_mass : Df K mg "_law_mass" s__law_mass ["index", "chances"] := ⟨_, _, PySem.W.mg_of X G a27, k27, b27, F27⟩
  have F28 := fun_mk (st := s__law_best) l28 c28 k28
  have b28 := F28.binds (ps := ["table", "chances", "many"]) fun _ _ _ _ _ _ us hl => match us, hl with | [_, _, _], _ => rfl
  have d__law_best : Df K mg "_law_best" s__law_best ["table", "chances", "many"] := ⟨_, _, PySem.W.mg_of X G a28, k28, b28, F28⟩
  have F29 := fun_mk (st := s_law) l29 c29 k29
  have b29 := F29.binds (ps := ["script"]) fun _ _ _ _ _ _ us hl => match us, hl with | [_], _ => rfl
  have d_law : Df K mg "law" s_law ["script"] := ⟨_, _, PySem.W.mg_of X G a29, k29, b29, F29⟩
  have cls_Store : Cls K CS := ⟨pgCS, hdCS, poCS, saCS⟩
  have no_Store := And.intro trivial trivial
  have F30 := fun_mk (st := s_Store___init__) l30 c30 k30
  have b30 := F30.binds (ps := ["self"]) fun _ _ _ _ _ _ us hl => match us, hl with | [_], _ => rfl
  have d_Store___init__ : Di K mg "Store" CS "Store.__init__" s_Store___init__ ["self"] := ⟨_, _, ⟨mkCS, a30, i30, kcCS⟩, PySem.W.mg_of X G aCS, b30, F30⟩
  have F31 := fun_mk (st := s_Store_node) l31 c31 k31
  have b31 := F31.binds (ps := ["self", "level", "low", "high"]) fun _ _ _ _ _ _ us hl => match us, hl with | [_, _, _, _], _ => rfl
  have d_Store_node : Dm K CS "node" "Store.node" s_Store_node ["self", "level", "low", "high"] := ⟨cls_Store, _, _, ⟨a31, i31, k31⟩, b31, F31⟩
  have F32 := fun_mk (st := s_Store_coin) l32 c32 k32
  have b32 := F32.binds (ps := ["self", "level"]) fun _ _ _ _ _ _ us hl => match us, hl with | [_, _], _ => rfl
  have d_Store_coin : Dm K CS "coin" "Store.coin" s_Store_coin ["self", "level"] := ⟨cls_Store, _, _, ⟨a32, i32, k32⟩, b32, F32⟩
  have F33 := fun_mk (st := s_Store_level) l33 c33 k33
  have b33 := F33.binds (ps := ["self", "a"]) fun _ _ _ _ _ _ us hl => match us, hl with | [_, _], _ => rfl
  have d_Store_level : Dm K CS "level" "Store.level" s_Store_level ["self", "a"] := ⟨cls_Store, _, _, ⟨a33, i33, k33⟩, b33, F33⟩
  have F34 := fun_mk (st := s_Store_low) l34 c34 k34
  have b34 := F34.binds (ps := ["self", "a"]) fun _ _ _ _ _ _ us hl => match us, hl with | [_, _], _ => rfl
  have d_Store_low : Dm K CS "low" "Store.low" s_Store_low ["self", "a"] := ⟨cls_Store, _, _, ⟨a34, i34, k34⟩, b34, F34⟩
  have F35 := fun_mk (st := s_Store_high) l35 c35 k35
  have b35 := F35.binds (ps := ["self", "a"]) fun _ _ _ _ _ _ us hl => match us, hl with | [_, _], _ => rfl
  have d_Store_high : Dm K CS "high" "Store.high" s_Store_high ["self", "a"] := ⟨cls_Store, _, _, ⟨a35, i35, k35⟩, b35, F35⟩
  have F36 := fun_mk (st := s_Store_top_level) l36 c36 k36
  have b36 := F36.binds (ps := ["self", "references"]) fun _ _ _ _ _ _ us hl => match us, hl with | [_, _], _ => rfl
  have d_Store_top_level : Dm K CS "top_level" "Store.top_level" s_Store_top_level ["self", "references"] := ⟨cls_Store, _, _, ⟨a36, i36, k36⟩, b36, F36⟩
  have F37 := fun_mk (st := s_Store_part) l37 c37 k37
  have b37 := F37.binds (ps := ["self", "a", "level", "value"]) fun _ _ _ _ _ _ us hl => match us, hl with | [_, _, _, _], _ => rfl
  have d_Store_part : Dm K CS "part" "Store.part" s_Store_part ["self", "a", "level", "value"] := ⟨cls_Store, _, _, ⟨a37, i37, k37⟩, b37, F37⟩
  have F38 := fun_mk (st := s_Store_known_choice) l38 c38 k38
  have b38 := F38.binds (ps := ["self", "key"]) fun _ _ _ _ _ _ us hl => match us, hl with | [_, _], _ => rfl
  have d_Store_known_choice : Dm K CS "known_choice" "Store.known_choice" s_Store_known_choice ["self", "key"] := ⟨cls_Store, _, _, ⟨a38, i38, k38⟩, b38, F38⟩
  have F39 := fun_mk (st := s_Store_choose) l39 c39 k39
  have b39 := F39.binds (ps := ["self", "c", "a", "b"]) fun _ _ _ _ _ _ us hl => match us, hl with | [_, _, _, _], _ => rfl
  have d_Store_choose : Dm K CS "choose" "Store.choose" s_Store_choose ["self", "c", "a", "b"] := ⟨cls_Store, _, _, ⟨a39, i39, k39⟩, b39, F39⟩
  have F40 := fun_mk (st := s_Store_advance) l40 c40 k40
  have b40 := F40.binds (ps := ["self", "waiting", "key"]) fun _ _ _ _ _ _ us hl => match us, hl with | [_, _, _], _ => rfl
  have d_Store_advance : Dm K CS "advance" "Store.advance" s_Store_advance ["self", "waiting", "key"] := ⟨cls_Store, _, _, ⟨a40, i40, k40⟩, b40, F40⟩
  have F41 := fun_mk (st := s_Store_negate) l41 c41 k41
  have b41 := F41.binds (ps := ["self", "a"]) fun _ _ _ _ _ _ us hl => match us, hl with | [_, _], _ => rfl
  have d_Store_negate : Dm K CS "negate" "Store.negate" s_Store_negate ["self", "a"] := ⟨cls_Store, _, _, ⟨a41, i41, k41⟩, b41, F41⟩
  have F42 := fun_mk (st := s_Store_both) l42 c42 k42
  have b42 := F42.binds (ps := ["self", "a", "b"]) fun _ _ _ _ _ _ us hl => match us, hl with | [_, _, _], _ => rfl
  have d_Store_both : Dm K CS "both" "Store.both" s_Store_both ["self", "a", "b"] := ⟨cls_Store, _, _, ⟨a42, i42, k42⟩, b42, F42⟩
  have F43 := fun_mk (st := s_Store_either) l43 c43 k43
  have b43 := F43.binds (ps := ["self", "a", "b"]) fun _ _ _ _ _ _ us hl => match us, hl with | [_, _, _], _ => rfl
  have d_Store_either : Dm K CS "either" "Store.either" s_Store_either ["self", "a", "b"] := ⟨cls_Store, _, _, ⟨a43, i43, k43⟩, b43, F43⟩
  have F44 := fun_mk (st := s_Store_without) l44 c44 k44
  have b44 := F44.binds (ps := ["self", "a", "b"]) fun _ _ _ _ _ _ us hl => match us, hl with | [_, _, _], _ => rfl
  have d_Store_without : Dm K CS "without" "Store.without" s_Store_without ["self", "a", "b"] := ⟨cls_Store, _, _, ⟨a44, i44, k44⟩, b44, F44⟩
  have F45 := fun_mk (st := s_Store_either_of) l45 c45 k45
  have b45 := F45.binds (ps := ["self", "references"]) fun _ _ _ _ _ _ us hl => match us, hl with | [_, _], _ => rfl
  have d_Store_either_of : Dm K CS "either_of" "Store.either_of" s_Store_either_of ["self", "references"] := ⟨cls_Store, _, _, ⟨a45, i45, k45⟩, b45, F45⟩
  have F46 := fun_mk (st := s_Store_nodes_below) l46 c46 k46
  have b46 := F46.binds (ps := ["self", "a"]) fun _ _ _ _ _ _ us hl => match us, hl with | [_, _], _ => rfl
  have d_Store_nodes_below : Dm K CS "nodes_below" "Store.nodes_below" s_Store_nodes_below ["self", "a"] := ⟨cls_Store, _, _, ⟨a46, i46, k46⟩, b46, F46⟩
  have exc_NoEvidence : ExcC K mg "NoEvidence" CE := ⟨PySem.W.mg_of X G aCE, xCE, kCE, bCE, tCE, exm_me bCE iCE tCE sCE⟩
  have cst_FALSE : Cst K mg "FALSE" (.int (0)) := ⟨.int (0), _, PySem.W.mg_of X G zFALSE, ⟨_, rfl⟩, fun _ => .int _⟩
  have cst_TRUE : Cst K mg "TRUE" (.int (1)) := ⟨.int (1), _, PySem.W.mg_of X G zTRUE, ⟨_, rfl⟩, fun _ => .int _⟩
  have cst_UNKNOWN : Cst K mg "UNKNOWN" (.int (-1)) := ⟨.int (-1), _, PySem.W.mg_of X G zUNKNOWN, ⟨_, rfl⟩, fun _ => .int _⟩
  have cst_ZERO : Cst K mg "ZERO" (.tuple [.int (0), .int (1)]) := ⟨.ref pZERO, _, PySem.W.mg_of X G zZERO, rfl, fun P => Dp.tup (xs := [.int (0), .int (1)]) (.inr ⟨_, _, _, yZERO, rfl, rfl, (by show 2 ≤ sizeLine; decide), .cons ⟨_, rfl⟩ (.cons ⟨_, rfl⟩ (.nil))⟩) (.cons (.int _) (.cons (.int _) (.nil)))⟩
  have cst_ONE : Cst K mg "ONE" (.tuple [.int (1), .int (1)]) := ⟨.ref pONE, _, PySem.W.mg_of X G zONE, rfl, fun P => Dp.tup (xs := [.int (1), .int (1)]) (.inr ⟨_, _, _, yONE, rfl, rfl, (by show 2 ≤ sizeLine; decide), .cons ⟨_, rfl⟩ (.cons ⟨_, rfl⟩ (.nil))⟩) (.cons (.int _) (.cons (.int _) (.nil)))⟩
  have bl_len : mg "len" = none := PySem.W.mg_none_of X G zlen
  have bl_range : mg "range" = none := PySem.W.mg_none_of X G zrange
  have bl_int : mg "int" = none := PySem.W.mg_none_of X G zint
  have bl_abs : mg "abs" = none := PySem.W.mg_none_of X G zabs
  have bl_sum : mg "sum" = none := PySem.W.mg_none_of X G zsum
  have bl_isinstance : mg "isinstance" = none := PySem.W.mg_none_of X G zisinstance
  have bl_bool : mg "bool" = none := PySem.W.mg_none_of X G zbool
  have bl_str : mg "str" = none := PySem.W.mg_none_of X G zstr
  have bl_list : mg "list" = none := PySem.W.mg_none_of X G zlist
  have bl_tuple : mg "tuple" = none := PySem.W.mg_none_of X G ztuple
  have bl_sorted : mg "sorted" = none := PySem.W.mg_none_of X G zsorted
  have bl_min : mg "min" = none := PySem.W.mg_none_of X G zmin
  have bl_reversed : mg "reversed" = none := PySem.W.mg_none_of X G zreversed
  have gl_gcd : mg "gcd" = some (.builtin "math.gcd") := PySem.W.mg_of X G zgcd
  refine ⟨PySem.W.fnOf "law" "law" (defArgs s_law) (defBody s_law) (defScope s_law) .none kV29 dc29 pm29 an29 cd29 ct29, fun s v => .of_eq rfl, fun base _ _ => ?_⟩
  have B : Blt mg := ⟨bl_len, bl_range, bl_int, bl_abs, bl_sum, bl_isinstance, bl_bool, bl_str, bl_list, bl_tuple⟩
  have TS : StoC K mg CS := ⟨cls_Store, nCS0, nCS1, nCS2, nCS3, nCS4, cst_FALSE, cst_TRUE⟩
  have m_ratio := c_ratio (P := l.prog) (w := w) (base := base) d_ratio gl_gcd
  have m_minus := c_minus (P := l.prog) (w := w) (base := base) d_minus m_ratio
  have m_times := c_times (P := l.prog) (w := w) (base := base) d_times m_ratio
  have m_rest := c_rest (P := l.prog) (w := w) (base := base) d_rest cst_ONE m_minus
  have m_same := c__law_same (P := l.prog) (w := w) (base := base) d__law_same B 2
  have m_pool := c__law_pool (P := l.prog) (w := w) (base := base) d__law_pool B
  have m_spread := c__law_spread (P := l.prog) (w := w) (base := base) d__law_spread B
  have m_draw := c__law_draw (P := l.prog) (w := w) (base := base) d__law_draw B m_spread
  have m_gcd := c__law_gcd (P := l.prog) (w := w) (base := base) d__law_gcd B
  have m_frac := c__law_frac (P := l.prog) (w := w) (base := base) d__law_frac m_gcd
  have m_lch := c__law_chances (P := l.prog) (w := w) (base := base) d__law_chances B m_draw m_frac
  have m_sinit := c_Store_init (P := l.prog) (w := w) (base := base) d_Store___init__ TS
  have m_node := c_Store_node (P := l.prog) (w := w) (base := base) d_Store_node B TS
  have m_coin := c_Store_coin (P := l.prog) (w := w) (base := base) d_Store_coin TS m_node
  have m_top := c_Store_top_level (P := l.prog) (w := w) (base := base) d_Store_top_level bl_min TS
  have m_part := c_Store_part (P := l.prog) (w := w) (base := base) d_Store_part TS
  have m_known := c_Store_known_choice (P := l.prog) (w := w) (base := base) d_Store_known_choice TS cst_UNKNOWN
  have m_adv := c_Store_advance (P := l.prog) (w := w) (base := base) d_Store_advance B TS cst_UNKNOWN m_top m_part m_known m_node
  have m_choose := c_Store_choose (P := l.prog) (w := w) (base := base) d_Store_choose B TS cst_UNKNOWN m_known m_adv
  have m_both := c_Store_both (P := l.prog) (w := w) (base := base) d_Store_both TS m_choose
  have m_without := c_Store_without (P := l.prog) (w := w) (base := base) d_Store_without TS m_choose
  have m_either := c_Store_either (P := l.prog) (w := w) (base := base) d_Store_either TS m_choose
  have m_negate := c_Store_negate (P := l.prog) (w := w) (base := base) d_Store_negate TS m_choose
  have m_eithers := c_Store_either_of (P := l.prog) (w := w) (base := base) d_Store_either_of TS m_either
  have m_level := c_Store_level (P := l.prog) (w := w) (base := base) d_Store_level TS
  have m_low := c_Store_low (P := l.prog) (w := w) (base := base) d_Store_low TS
  have m_high := c_Store_high (P := l.prog) (w := w) (base := base) d_Store_high TS
  have m_below := c_Store_nodes_below (P := l.prog) (w := w) (base := base) d_Store_nodes_below bl_sorted TS
  have m_lcoin := c__law_coin (P := l.prog) (w := w) (base := base) d__law_coin B
  have m_mixed := c__law_mixed (P := l.prog) (w := w) (base := base) d__law_mixed B
  have m_halves := c__law_halves (P := l.prog) (w := w) (base := base) d__law_halves B
  have m_needs := c__law_needs (P := l.prog) (w := w) (base := base) d__law_needs B m_halves
  have m_deed := c__law_deed (P := l.prog) (w := w) (base := base) d__law_deed B TS m_draw m_mixed m_lcoin m_needs m_negate m_both m_either m_without m_eithers m_coin m_node m_choose
  have m_made := c__law_made (P := l.prog) (w := w) (base := base) d__law_made B TS m_draw m_lcoin m_coin m_deed

  have m_over := c_over (P := l.prog) (w := w) (base := base) d_over m_ratio
  have m_cmp := c_compare (P := l.prog) (w := w) (base := base) d_compare
  have m_better := c_better (P := l.prog) (w := w) (base := base) d_better m_rest m_cmp
  have m_gap := c_gap (P := l.prog) (w := w) (base := base) d_gap m_over
  have m_side := c_side (P := l.prog) (w := w) (base := base) d_side cst_FALSE cst_TRUE cst_ZERO m_level m_gap m_times
  have m_bm := c_best_masses (P := l.prog) (w := w) (base := base) d_best_masses bl_reversed cst_ONE m_better m_times m_below m_level m_low m_high m_rest m_side m_cmp
  have m_least := c_least_bits (P := l.prog) (w := w) (base := base) d_least_bits B cst_FALSE m_level m_low m_high
  have m_bits := c_best_bits (P := l.prog) (w := w) (base := base) d_best_bits B m_times m_level m_low m_high m_rest m_side m_cmp
  have m_lik := c_likeliest (P := l.prog) (w := w) (base := base) d_likeliest cst_FALSE cst_ZERO exc_NoEvidence m_bm m_side m_least m_bits
  have m_lmass := c__law_mass (P := l.prog) (w := w) (base := base) d__law_mass B m_frac
  have m_lbest := c__law_best (P := l.prog) (w := w) (base := base) d__law_best B m_lmass
  exact ok_law F29 B TS m_pool m_draw m_sinit m_lch m_made m_lbest m_same m_lik exc_NoEvidence
theorem wd_top {K : PySem.W.Frag} {H : Hp} : Wd K [] H H := ⟨Same.refl _, fun a m => absurd m (by simp), fun a r m => absurd m (by simp), List.nodup_nil⟩
theorem dp_top {K : PySem.W.Frag} {H : Hp} : ∀ ns : List Int, DpAll K H (ns.map V.int) (ns.map PyData.int)
  | [] => .nil
  | n :: r => .cons (.int n) (dp_top r)
theorem the_walk {l : PySem.W.OpenLaw} {q : Program} {loose : List Str} {XP : (Str → Option Value) → Heap → Prop} {YP : World → Heap → Prop} {d : DefRec} {K : Params → PySem.W.Frag} (hn : l.most = some 63) (hdf : d.params.defaults = [])
    (hY : ∀ (w : World) (h : Heap), YP w h → (K w.params).In h)
    (F : ∀ (w : World) (mg : Str → Option Value) (fa : Addr) (h : Heap), (K w.params).In h → h.Ns mainGlobals mg → mg d.name = some (.ref fa) →
      ∃ fd : FuncData, (∀ (s : Shared) (u : Value), BindsTo s fd ⟨[u], []⟩ [("script", u)]) ∧ ∀ base : Heap, (K w.params).In base → base.Ns mainGlobals mg → FnOk l.prog w (K w.params) mg base (L2.CX l.prog w) 8 fa fd ["script"] (spOf (K w.params) spTheLaw)) :
    PySem.W.WalkO q loose XP YP l.row.toRowW d [] (fun f vs => PySem.call f vs) :=
  L2.walk_of (n := 63) (k := 8) (x := "script") (CX := fun w => L2.CX l.prog w) (sp := fun w => spOf (K w.params) spTheLaw) hn (by decide) hdf ⟨rfl, by decide, by decide⟩ hY F
    (fun _ H a ns hl _ hS => ⟨_, [], H, .cons (show Av _ H (.ref a) (.l (ns.map .int)) from .lst hS (dp_top ns)) .nil, wd_top, ns, rfl, rfl, hl, fun v P1 H1 hv _ _ => by cases hv; rfl⟩)
    fun _ _ _ _ _ ⟨_, _, _, _, _, _, _, _, _, _, _, _, z⟩ => z
end AL

open PySem PySem.W PyProof.Rows in
set_option maxRecDepth 100000 in
set_option maxHeartbeats 0 in
theorem PySem.Challenge.cw_odds_k77_likeliest_assignments_holds : PySem.Challenge.rw_odds_k77_likeliest_assignments.Holds := by
  w_on; o_law; k_head; (case hw => w_witness2)
  k_fill
  refine AL.the_walk (l := PySem.Challenge.rw_odds_k77_likeliest_assignments) rfl rfl (fun w h Y => PySem.W.kIn_of Y) ?F
  case F =>
    intro w mg fa h KX G hmg
    refine' AL.all_mk KX G hmg ?a1 ?l1 ?c1 ?k1 ?a2 ?l2 ?c2 ?k2 ?a3 ?l3 ?c3 ?k3 ?a4 ?l4 ?c4 ?k4 ?a5 ?l5 ?c5 ?k5 ?a6 ?l6 ?c6 ?k6 ?a7 ?l7 ?c7 ?k7 ?a8 ?l8 ?c8 ?k8 ?a9 ?l9 ?c9 ?k9 ?a10 ?l10 ?c10 ?k10 ?a11 ?l11 ?c11 ?k11 ?a12 ?l12 ?c12 ?k12 ?a13 ?l13 ?c13 ?k13 ?a14 ?l14 ?c14 ?k14 ?a15 ?l15 ?c15 ?k15 ?a16 ?l16 ?c16 ?k16 ?a17 ?l17 ?c17 ?k17 ?a18 ?l18 ?c18 ?k18 ?a19 ?l19 ?c19 ?k19 ?a20 ?l20 ?c20 ?k20 ?a21 ?l21 ?c21 ?k21 ?a22 ?l22 ?c22 ?k22 ?a23 ?l23 ?c23 ?k23 ?a24 ?l24 ?c24 ?k24 ?a25 ?l25 ?c25 ?k25 ?a26 ?l26 ?c26 ?k26 ?a27 ?l27 ?c27 ?k27 ?a28 ?l28 ?c28 ?k28 ?a29 ?l29 ?c29 ?k29 ?aCS ?pgCS ?hdCS ?poCS ?saCS ?mkCS ?kcCS ?nCS0 ?nCS1 ?nCS2 ?nCS3 ?nCS4 ?a30 ?i30 ?l30 ?c30 ?k30 ?a31 ?i31 ?l31 ?c31 ?k31 ?a32 ?i32 ?l32 ?c32 ?k32 ?a33 ?i33 ?l33 ?c33 ?k33 ?a34 ?i34 ?l34 ?c34 ?k34 ?a35 ?i35 ?l35 ?c35 ?k35 ?a36 ?i36 ?l36 ?c36 ?k36 ?a37 ?i37 ?l37 ?c37 ?k37 ?a38 ?i38 ?l38 ?c38 ?k38 ?a39 ?i39 ?l39 ?c39 ?k39 ?a40 ?i40 ?l40 ?c40 ?k40 ?a41 ?i41 ?l41 ?c41 ?k41 ?a42 ?i42 ?l42 ?c42 ?k42 ?a43 ?i43 ?l43 ?c43 ?k43 ?a44 ?i44 ?l44 ?c44 ?k44 ?a45 ?i45 ?l45 ?c45 ?k45 ?a46 ?i46 ?l46 ?c46 ?k46 ?aCE ?xCE ?kCE ?bCE ?tCE ?iCE ?sCE ?zFALSE ?zTRUE ?zUNKNOWN ?zZERO ?yZERO ?zONE ?yONE ?zlen ?zrange ?zint ?zabs ?zsum ?zisinstance ?zbool ?zstr ?zlist ?ztuple ?zsorted ?zmin ?zreversed ?zgcd
    (case a1 => k_is)
    (case l1 => k_is)
    (case c1 => k_is)
    (case k1 => k_is)
    (case a2 => k_is)
    (case l2 => k_is)
    (case c2 => k_is)
    (case k2 => k_is)
    (case a3 => k_is)
    (case l3 => k_is)
    (case c3 => k_is)
    (case k3 => k_is)
    (case a4 => k_is)
    (case l4 => k_is)
    (case c4 => k_is)
    (case k4 => k_is)
    (case a5 => k_is)
    (case l5 => k_is)
    (case c5 => k_is)
    (case k5 => k_is)
    (case a6 => k_is)
    (case l6 => k_is)
    (case c6 => k_is)
    (case k6 => k_is)
    (case a7 => k_is)
    (case l7 => k_is)
    (case c7 => k_is)
    (case k7 => k_is)
    (case a8 => k_is)
    (case l8 => k_is)
    (case c8 => k_is)
    (case k8 => k_is)
    (case a9 => k_is)
    (case l9 => k_is)
    (case c9 => k_is)
    (case k9 => k_is)
    (case a10 => k_is)
    (case l10 => k_is)
    (case c10 => k_is)
    (case k10 => k_is)
    (case a11 => k_is)
    (case l11 => k_is)
    (case c11 => k_is)
    (case k11 => k_is)
    (case a12 => k_is)
    (case l12 => k_is)
    (case c12 => k_is)
    (case k12 => k_is)
    (case a13 => k_is)
    (case l13 => k_is)
    (case c13 => k_is)
    (case k13 => k_is)
    (case a14 => k_is)
    (case l14 => k_is)
    (case c14 => k_is)
    (case k14 => k_is)
    (case a15 => k_is)
    (case l15 => k_is)
    (case c15 => k_is)
    (case k15 => k_is)
    (case a16 => k_is)
    (case l16 => k_is)
    (case c16 => k_is)
    (case k16 => k_is)
    (case a17 => k_is)
    (case l17 => k_is)
    (case c17 => k_is)
    (case k17 => k_is)
    (case a18 => k_is)
    (case l18 => k_is)
    (case c18 => k_is)
    (case k18 => k_is)
    (case a19 => k_is)
    (case l19 => k_is)
    (case c19 => k_is)
    (case k19 => k_is)
    (case a20 => k_is)
    (case l20 => k_is)
    (case c20 => k_is)
    (case k20 => k_is)
    (case a21 => k_is)
    (case l21 => k_is)
    (case c21 => k_is)
    (case k21 => k_is)
    (case a22 => k_is)
    (case l22 => k_is)
    (case c22 => k_is)
    (case k22 => k_is)
    (case a23 => k_is)
    (case l23 => k_is)
    (case c23 => k_is)
    (case k23 => k_is)
    (case a24 => k_is)
    (case l24 => k_is)
    (case c24 => k_is)
    (case k24 => k_is)
    (case a25 => k_is)
    (case l25 => k_is)
    (case c25 => k_is)
    (case k25 => k_is)
    (case a26 => k_is)
    (case l26 => k_is)
    (case c26 => k_is)
    (case k26 => k_is)
    (case a27 => k_is)
    (case l27 => k_is)
    (case c27 => k_is)
    (case k27 => k_is)
    (case a28 => k_is)
    (case l28 => k_is)
    (case c28 => k_is)
    (case k28 => k_is)
    (case a29 => k_is)
    (case l29 => k_is)
    (case c29 => k_is)
    (case k29 => k_is)
    (case aCS => k_is)
    (case pgCS => k_is)
    (case hdCS => k_is)
    (case poCS => k_is)
    (case saCS => k_is)
    (case mkCS => k_is)
    (case kcCS => k_is)
    (case nCS0 => k_is)
    (case nCS1 => k_is)
    (case nCS2 => k_is)
    (case nCS3 => k_is)
    (case nCS4 => k_is)
    (case a30 => k_is)
    (case i30 => k_is)
    (case l30 => k_is)
    (case c30 => k_is)
    (case k30 => k_is)
    (case a31 => k_is)
    (case i31 => k_is)
    (case l31 => k_is)
    (case c31 => k_is)
    (case k31 => k_is)
    (case a32 => k_is)
    (case i32 => k_is)
    (case l32 => k_is)
    (case c32 => k_is)
    (case k32 => k_is)
    (case a33 => k_is)
    (case i33 => k_is)
    (case l33 => k_is)
    (case c33 => k_is)
    (case k33 => k_is)
    (case a34 => k_is)
    (case i34 => k_is)
    (case l34 => k_is)
    (case c34 => k_is)
    (case k34 => k_is)
    (case a35 => k_is)
    (case i35 => k_is)
    (case l35 => k_is)
    (case c35 => k_is)
    (case k35 => k_is)
    (case a36 => k_is)
    (case i36 => k_is)
    (case l36 => k_is)
    (case c36 => k_is)
    (case k36 => k_is)
    (case a37 => k_is)
    (case i37 => k_is)
    (case l37 => k_is)
    (case c37 => k_is)
    (case k37 => k_is)
    (case a38 => k_is)
    (case i38 => k_is)
    (case l38 => k_is)
    (case c38 => k_is)
    (case k38 => k_is)
    (case a39 => k_is)
    (case i39 => k_is)
    (case l39 => k_is)
    (case c39 => k_is)
    (case k39 => k_is)
    (case a40 => k_is)
    (case i40 => k_is)
    (case l40 => k_is)
    (case c40 => k_is)
    (case k40 => k_is)
    (case a41 => k_is)
    (case i41 => k_is)
    (case l41 => k_is)
    (case c41 => k_is)
    (case k41 => k_is)
    (case a42 => k_is)
    (case i42 => k_is)
    (case l42 => k_is)
    (case c42 => k_is)
    (case k42 => k_is)
    (case a43 => k_is)
    (case i43 => k_is)
    (case l43 => k_is)
    (case c43 => k_is)
    (case k43 => k_is)
    (case a44 => k_is)
    (case i44 => k_is)
    (case l44 => k_is)
    (case c44 => k_is)
    (case k44 => k_is)
    (case a45 => k_is)
    (case i45 => k_is)
    (case l45 => k_is)
    (case c45 => k_is)
    (case k45 => k_is)
    (case a46 => k_is)
    (case i46 => k_is)
    (case l46 => k_is)
    (case c46 => k_is)
    (case k46 => k_is)
    (case aCE => k_is)
    (case xCE => k_exc)
    (case kCE => k_is)
    (case bCE => k_is)
    (case tCE => k_is)
    (case iCE => k_is)
    (case sCE => first | k_is | rfl)
    (case zFALSE => k_is)
    (case zTRUE => k_is)
    (case zUNKNOWN => k_is)
    (case zZERO => k_is)
    (case yZERO => k_is)
    (case zONE => k_is)
    (case yONE => k_is)
    (case zlen => k_is)
    (case zrange => k_is)
    (case zint => k_is)
    (case zabs => k_is)
    (case zsum => k_is)
    (case zisinstance => k_is)
    (case zbool => k_is)
    (case zstr => k_is)
    (case zlist => k_is)
    (case ztuple => k_is)
    (case zsorted => k_is)
    (case zmin => k_is)
    (case zreversed => k_is)
    (case zgcd => k_is)
-- axioms: PySem.Challenge.cw_odds_k77_likeliest_assignments_holds
