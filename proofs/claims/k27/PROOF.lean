import PyProof.Rows.All
import Wide.All
import OpenK.AllK
import Wide.FinOn
import HandS.ForMost
import HandS.ForExc
import HandS.Evl
import HandS.TupAny
import HandS.TupMul
import HandS.RaiseMore
import HandS.Wide
import HandS.IsInst
import HandS.NoneIn
import PyProof.DictCompW
import HandS.DictComp
import KE.GoesEnum
import HandS.Iter
import KE.KDictWalk
import PyProof.DictMoreH
import HandS.SetKeys
import HandS.Words
import HandS.Star
import HandS.Codes
import HandS.Defaults
import KE.SortData
import HandS.Ends
import HandS.HeadHook3
import HandS.HeadEnd
import HandS.Head0
import HandS.Head1
import HandS.Head2
import PySem.Challenge.RW_handrows_k27_main_whole_free_windings_by
set_option Elab.async false
set_option linter.all false
set_option maxRecDepth 100000
set_option maxHeartbeats 4000000
/-! DS: data by value over the hand layer; one rule a construct -/
namespace DS
open PySem L2

/-- data: what is frozen by value, what may change by its number -/
inductive D where
  | non
  | bl (b : Bool)
  | int (i : Int)
  | str (x : Str)
  | tup (xs : List D)
  | lst (xs : List D)
  | scr (xs : List D)
  | gtp (xs : List D)
  | dT (ks : List (List Key)) (vs : List D)
  | dK (ks : List Key) (vs : List D)
  | lckT (ks : List (List Key)) (vs : List D)
  | lckK (ks : List Key) (vs : List D)
  | ins (c : Str) (ns : List Str) (vs : List D)
  | ref (a : Nat)
  | glo (x : Str)

/-- the store: bounds of the frames, objects by number -/
structure S where
  bases : List Nat
  objs : List D

/-- where data lie: the frozen part of the heap, the addresses of the numbered objects -/
structure W where
  F : Hp
  α : List Addr
  hold : List (Addr × HO)
structure W.le0 (w w' : W) : Prop where
  sm : Same w.F w'.F
  pf : w.α <+: w'.α
structure W.le (w w' : W) : Prop where
  z : w.le0 w'
  hd : w'.hold = w.hold
theorem W.le.sm {w w' : W} (h : w.le w') : Same w.F w'.F := h.z.sm
theorem W.le.pf {w w' : W} (h : w.le w') : w.α <+: w'.α := h.z.pf
def W.cut (w : W) (n : Nat) : W := ⟨w.F, w.α.take n, w.hold⟩
theorem W.le.refl (w : W) : w.le w := ⟨⟨Same.refl _, List.prefix_refl _⟩, rfl⟩
theorem W.le.trans {a b c : W} (h : a.le b) (k : b.le c) : a.le c := ⟨⟨h.sm.trans k.sm, h.pf.trans k.pf⟩, k.hd.trans h.hd⟩
theorem W.le0.trans {a b c : W} (h : a.le0 b) (k : b.le0 c) : a.le0 c := ⟨h.sm.trans k.sm, h.pf.trans k.pf⟩
theorem same_t {K : PySem.W.Frag} {H H' : Hp} {a : Addr} {xs : List V} (e : Same H H') (h : SqT K H a xs) : SqT K H' a xs := Evl.ex_t (fun b o q => e b o q) h

section
variable (K : PySem.W.Frag) (mg : Str → Option Value)
mutual
inductive RD (w : W) : D → V → Prop where
  | non : RD w .non .non
  | bl (b : Bool) : RD w (.bl b) (.bl b)
  | int (i : Int) : RD w (.int i) (.int i)
  | str (x : Str) : RD w (.str x) (.str x)
  | tup {a : Addr} {ds : List D} {vs : List V} : w.F a = some (.tup vs) → RL w ds vs → RD w (.tup ds) (.ref a)
  | gtp {a : Addr} {ds : List D} {vs : List V} : SqT K w.F a vs → RL w ds vs → RD w (.gtp ds) (.ref a)
  | lst {a : Addr} {ds : List D} {vs : List V} : w.F a = some (.lst vs) → RL w ds vs → RD w (.lst ds) (.ref a)
  | scr {a : Addr} {ds : List D} {vs : List V} : SqL K w.F a vs → RL w ds vs → RD w (.scr ds) (.ref a)
  | dT {a : Addr} {ks : List (List Key)} {ds : List D} {kvs : List (List Key × V)} : w.F a = some (.dT kvs) → kvs.map (·.1) = ks → RL w ds (kvs.map (·.2)) → RD w (.dT ks ds) (.ref a)
  | dK {a : Addr} {ks : List Key} {ds : List D} {kvs : List (Key × V)} : w.F a = some (.dK kvs) → kvs.map (·.1) = ks → RL w ds (kvs.map (·.2)) → RD w (.dK ks ds) (.ref a)
  | lckT {a : Addr} {o : Obj} {ks : List (List Key)} {ds : List D} {kvs : List (List Key × V)} : w.F a = some (.frz o (.dT kvs)) → kvs.map (·.1) = ks → RL w ds (kvs.map (·.2)) → RD w (.lckT ks ds) (.ref a)
  | lckK {a : Addr} {o : Obj} {ks : List Key} {ds : List D} {kvs : List (Key × V)} : w.F a = some (.frz o (.dK kvs)) → kvs.map (·.1) = ks → RL w ds (kvs.map (·.2)) → RD w (.lckK ks ds) (.ref a)
  | ins {a C dx : Addr} {c : Str} {ns : List Str} {ds : List D} {fs : List (Str × V)} : w.F a = some (.ins C dx fs) → mg c = some (.ref C) → fs.map (·.1) = ns → RL w ds (fs.map (·.2)) → RD w (.ins c ns ds) (.ref a)
  | ref {i : Nat} {a : Addr} : w.α[i]? = some a → RD w (.ref i) (.ref a)
  | glo {x : Str} {a : Addr} : mg x = some (.ref a) → RD w (.glo x) (.ref a)
inductive RL (w : W) : List D → List V → Prop where
  | nil : RL w [] []
  | cons {d : D} {v : V} {ds : List D} {vs : List V} : RD w d v → RL w ds vs → RL w (d :: ds) (v :: vs)
end
end
variable {K : PySem.W.Frag} {mg : Str → Option Value}
theorem pre_get {α : Type} {l l' : List α} {i : Nat} {a : α} (h : l <+: l') (e : l[i]? = some a) : l'[i]? = some a := by
  obtain ⟨t, rfl⟩ := h
  rw [List.getElem?_append_left (List.getElem?_eq_some_iff.mp e).1]
  exact e
mutual
theorem RD.mono0 {w w' : W} (h : w.le0 w') : ∀ {d : D} {v : V}, RD K mg w d v → RD K mg w' d v
  | _, _, .non => .non
  | _, _, .bl b => .bl b
  | _, _, .int i => .int i
  | _, _, .str x => .str x
  | _, _, .tup q r => .tup (h.sm _ _ q) (RL.mono0 h r)
  | _, _, .gtp q r => .gtp (same_t h.sm q) (RL.mono0 h r)
  | _, _, .lst q r => .lst (h.sm _ _ q) (RL.mono0 h r)
  | _, _, .scr q r => .scr (h.sm.seq q) (RL.mono0 h r)
  | _, _, .dT q e r => .dT (h.sm _ _ q) e (RL.mono0 h r)
  | _, _, .dK q e r => .dK (h.sm _ _ q) e (RL.mono0 h r)
  | _, _, .lckT q e r => .lckT (h.sm _ _ q) e (RL.mono0 h r)
  | _, _, .lckK q e r => .lckK (h.sm _ _ q) e (RL.mono0 h r)
  | _, _, .ins q c e r => .ins (h.sm _ _ q) c e (RL.mono0 h r)
  | _, _, .ref e => .ref (pre_get h.pf e)
  | _, _, .glo e => .glo e
theorem RL.mono0 {w w' : W} (h : w.le0 w') : ∀ {ds : List D} {vs : List V}, RL K mg w ds vs → RL K mg w' ds vs
  | _, _, .nil => .nil
  | _, _, .cons a b => .cons (RD.mono0 h a) (RL.mono0 h b)
end
theorem RD.mono {w w' : W} (h : w.le w') {d : D} {v : V} (r : RD K mg w d v) : RD K mg w' d v := r.mono0 h.z
theorem RL.mono {w w' : W} (h : w.le w') {d : List D} {v : List V} (r : RL K mg w d v) : RL K mg w' d v := r.mono0 h.z
theorem RL.length {w : W} : ∀ {ds : List D} {vs : List V}, RL K mg w ds vs → ds.length = vs.length
  | _, _, .nil => rfl
  | _, _, .cons _ b => by simp [RL.length b]
theorem RL.get {w : W} : ∀ {ds : List D} {vs : List V} {i : Nat} {d : D}, RL K mg w ds vs → ds[i]? = some d → ∃ v, vs[i]? = some v ∧ RD K mg w d v
  | _, _, _, _, .nil, e => by simp at e
  | _, _, 0, _, .cons r _, e => by simp at e; subst e; exact ⟨_, rfl, r⟩
  | _, _, i + 1, _, .cons _ t, e => by
    obtain ⟨u, h1, h2⟩ := RL.get (i := i) t (by simpa using e)
    exact ⟨u, by simpa using h1, h2⟩
theorem RL.getV {w : W} : ∀ {ds : List D} {vs : List V} {i : Nat} {v : V}, RL K mg w ds vs → vs[i]? = some v → ∃ d, ds[i]? = some d ∧ RD K mg w d v
  | _, _, _, _, .nil, e => by simp at e
  | _, _, 0, _, .cons r _, e => by simp at e; subst e; exact ⟨_, rfl, r⟩
  | _, _, i + 1, _, .cons _ t, e => by
    obtain ⟨u, h1, h2⟩ := RL.getV (i := i) t (by simpa using e)
    exact ⟨u, by simpa using h1, h2⟩
theorem RL.append {w : W} : ∀ {ds es : List D} {vs us : List V}, RL K mg w ds vs → RL K mg w es us → RL K mg w (ds ++ es) (vs ++ us)
  | _, _, _, _, .nil, s => s
  | _, _, _, _, .cons r t, s => .cons r (RL.append t s)
theorem RL.take {w : W} : ∀ {ds : List D} {vs : List V} (n : Nat), RL K mg w ds vs → RL K mg w (ds.take n) (vs.take n)
  | _, _, 0, _ => .nil
  | _, _, _ + 1, .nil => .nil
  | _, _, n + 1, .cons r t => .cons r (RL.take n t)
theorem RL.drop {w : W} : ∀ {ds : List D} {vs : List V} (n : Nat), RL K mg w ds vs → RL K mg w (ds.drop n) (vs.drop n)
  | _, _, 0, r => r
  | _, _, _ + 1, .nil => .nil
  | _, _, n + 1, .cons _ t => RL.drop n t
theorem RL.set {w : W} {d : D} {v : V} (r : RD K mg w d v) : ∀ {ds : List D} {vs : List V} (i : Nat), RL K mg w ds vs → RL K mg w (ds.set i d) (vs.set i v)
  | _, _, _, .nil => .nil
  | _, _, 0, .cons _ t => .cons r t
  | _, _, i + 1, .cons q t => .cons q (RL.set r i t)
theorem RL.of_get {w : W} : ∀ {ds : List D} {vs : List V}, ds.length = vs.length → (∀ (i : Nat) (d : D) (v : V), ds[i]? = some d → vs[i]? = some v → RD K mg w d v) → RL K mg w ds vs
  | [], [], _, _ => .nil
  | d :: ds, v :: vs, hl, h => .cons (h 0 d v rfl rfl) (RL.of_get (by simpa using hl) fun i d v e1 e2 => h (i + 1) d v (by simpa using e1) (by simpa using e2))

/-- a changing object as it lies -/
def RO (K : PySem.W.Frag) (mg : Str → Option Value) (w : W) : D → HO → Prop
  | .lst ds, .lst vs => RL K mg w ds vs
  | .dT ks ds, .dT kvs => kvs.map (·.1) = ks ∧ RL K mg w ds (kvs.map (·.2))
  | .dK ks ds, .dK kvs => kvs.map (·.1) = ks ∧ RL K mg w ds (kvs.map (·.2))
  | .lckT ks ds, .frz _ (.dT kvs) => kvs.map (·.1) = ks ∧ RL K mg w ds (kvs.map (·.2))
  | .lckK ks ds, .frz _ (.dK kvs) => kvs.map (·.1) = ks ∧ RL K mg w ds (kvs.map (·.2))
  | .ins c ns ds, .ins C _ fs => mg c = some (.ref C) ∧ fs.map (·.1) = ns ∧ RL K mg w ds (fs.map (·.2))
  | _, _ => False
theorem RO.mono0 {w w' : W} (h : w.le0 w') : ∀ {d : D} {o : HO}, RO K mg w d o → RO K mg w' d o := fun {d o} r => by
  cases d <;> cases o <;> first
    | exact RL.mono0 h r
    | exact ⟨r.1, RL.mono0 h r.2⟩
    | exact ⟨r.1, r.2.1, RL.mono0 h r.2.2⟩
    | exact r
    | (rename_i u; cases u <;> first
        | exact ⟨r.1, RL.mono0 h r.2⟩
        | exact r)
theorem RO.mono {w w' : W} (h : w.le w') {d : D} {o : HO} (r : RO K mg w d o) : RO K mg w' d o := r.mono0 h.z
theorem cut_le {w : W} {m n : Nat} (h : m ≤ n) : (w.cut m).le (w.cut n) := ⟨⟨Same.refl _, by
  show w.α.take m <+: w.α.take n
  rw [show w.α.take m = (w.α.take n).take m by rw [List.take_take, Nat.min_eq_left h]]
  exact List.take_prefix _ _⟩, rfl⟩
theorem cut_le_self {w : W} {m : Nat} : (w.cut m).le w := ⟨⟨Same.refl _, List.take_prefix _ _⟩, rfl⟩
theorem cut_mono0 {w w' : W} (h : w.le0 w') (m : Nat) : (w.cut m).le0 (w'.cut m) := ⟨h.sm, by
  obtain ⟨t, e⟩ := h.pf
  show w.α.take m <+: w'.α.take m
  rw [← e, List.take_append]
  exact List.prefix_append _ _⟩
theorem cut_mono {w w' : W} (h : w.le w') (m : Nat) : (w.cut m).le (w'.cut m) := ⟨cut_mono0 h.z m, h.hd⟩

def isLck : D → Bool
  | .lckT _ _ => true
  | .lckK _ _ => true
  | _ => false
def lckD : D → Option D
  | .dT ks ds => some (.lckT ks ds)
  | .dK ks ds => some (.lckK ks ds)
  | _ => none
/-- the store as it lies in the heap -/
structure Sto (K : PySem.W.Frag) (mg : Str → Option Value) (w : W) (S : S) (H : Hp) : Prop where
  len : S.objs.length = w.α.length
  nd : w.α.Nodup
  ex : Same w.F H
  off : ∀ (i : Nat) d p, S.objs[i]? = some d → w.α[i]? = some p → (isLck d = true ∧ ∃ o, w.F p = some o) ∨ (isLck d = false ∧ w.F p = none)
  obj : ∀ (i : Nat) d p, S.objs[i]? = some d → w.α[i]? = some p → ∃ o, H p = some o ∧ RO K mg w d o
  dec : S.bases.Pairwise (fun a b => b ≤ a)
  hld : ∀ q ∈ w.hold, H q.1 = some q.2 ∧ w.F q.1 = none ∧ q.1 ∉ w.α
  hnd : (w.hold.map (·.1)).Nodup
  low : ∀ b ∈ S.bases, b ≤ S.objs.length ∧ ∀ (i : Nat) d p, i < b → S.objs[i]? = some d → w.α[i]? = some p → ∃ o, H p = some o ∧ RO K mg (w.cut b) d o

/-- frozen: a new thing that never changes -/
theorem Sto.froz {w : W} {s : S} {H : Hp} {p : Addr} {o : HO} (x : Sto K mg w s H) (hp : H p = none) : Sto K mg ⟨upd w.F p o, w.α, w.hold⟩ s (upd H p o) ∧ w.le ⟨upd w.F p o, w.α, w.hold⟩ := by
  have hF : w.F p = none := x.ex.free hp
  have hle : w.le ⟨upd w.F p o, w.α, w.hold⟩ := ⟨⟨fun b q e => by show upd w.F p o b = some q; rw [upd_ne (ne_of_none e hF)]; exact e, List.prefix_refl _⟩, rfl⟩
  have hna : ∀ (i : Nat) d q, s.objs[i]? = some d → w.α[i]? = some q → q ≠ p := fun i d q e1 e2 z => by
    obtain ⟨o', e3, _⟩ := x.obj i d q e1 e2
    rw [z, hp] at e3
    cases e3
  have hne : ∀ q ∈ w.hold, q.1 ≠ p := fun q hq z => by
    have := (x.hld q hq).1
    rw [z, hp] at this
    cases this
  refine ⟨⟨x.len, x.nd, fun b q e => ?_, fun i d q e1 e2 => ?_, fun i d q e1 e2 => ?_, x.dec, fun q hq => ⟨by rw [upd_ne (hne q hq)]; exact (x.hld q hq).1, by show upd w.F p o q.1 = none; rw [upd_ne (hne q hq)]; exact (x.hld q hq).2.1, (x.hld q hq).2.2⟩, x.hnd, fun b hb => ⟨(x.low b hb).1, fun i d q hi e1 e2 => ?_⟩⟩, hle⟩
  · have e' : upd w.F p o b = some q := e
    by_cases hb : b = p
    · subst hb
      rw [upd_same] at e' ⊢
      exact e'
    · rw [upd_ne hb] at e' ⊢
      exact x.ex b q e'
  · have hne := hna i d q e1 e2
    show (_ ∧ ∃ u, upd w.F p o q = some u) ∨ (_ ∧ upd w.F p o q = none)
    rw [upd_ne hne]
    exact x.off i d q e1 e2
  · obtain ⟨o', e3, r⟩ := x.obj i d q e1 e2
    refine ⟨o', ?_, r.mono hle⟩
    rw [upd_ne (hna i d q e1 e2)]
    exact e3
  · obtain ⟨o', e3, r⟩ := (x.low b hb).2 i d q hi e1 e2
    refine ⟨o', ?_, r.mono (cut_mono hle b)⟩
    rw [upd_ne (hna i d q e1 e2)]
    exact e3

/-- a new thing that may change -/
theorem Sto.made {w : W} {s : S} {H : Hp} {p : Addr} {o : HO} {d : D} (x : Sto K mg w s H) (hp : H p = none) (r : RO K mg w d o) (hlk : isLck d = false) :
    Sto K mg ⟨w.F, w.α ++ [p], w.hold⟩ ⟨s.bases, s.objs ++ [d]⟩ (upd H p o) ∧ w.le ⟨w.F, w.α ++ [p], w.hold⟩ := by
  have hle : w.le ⟨w.F, w.α ++ [p], w.hold⟩ := ⟨⟨Same.refl _, List.prefix_append _ _⟩, rfl⟩
  have hne : ∀ q ∈ w.hold, q.1 ≠ p := fun q hq z => by
    have := (x.hld q hq).1
    rw [z, hp] at this
    cases this
  have hna : ∀ (i : Nat) d q, s.objs[i]? = some d → w.α[i]? = some q → q ≠ p := fun i d q e1 e2 z => by
    obtain ⟨o', e3, _⟩ := x.obj i d q e1 e2
    rw [z, hp] at e3
    cases e3
  have hmem : p ∉ w.α := fun hm => by
    obtain ⟨i, hi⟩ := List.getElem?_of_mem hm
    have hlt : i < s.objs.length := by rw [x.len]; exact (List.getElem?_eq_some_iff.mp hi).1
    exact hna i _ p (List.getElem?_eq_getElem hlt) hi rfl
  have old : ∀ (i : Nat) e q, (s.objs ++ [d])[i]? = some e → (w.α ++ [p])[i]? = some q → (s.objs[i]? = some e ∧ w.α[i]? = some q) ∨ (i = s.objs.length ∧ e = d ∧ q = p) := fun i e q e1 e2 => by
    by_cases hi : i < s.objs.length
    · left
      rw [List.getElem?_append_left hi] at e1
      rw [List.getElem?_append_left (by rw [← x.len]; exact hi)] at e2
      exact ⟨e1, e2⟩
    · right
      have h1 : i < (s.objs ++ [d]).length := (List.getElem?_eq_some_iff.mp e1).1
      have hi2 : i = s.objs.length := by simp at h1; omega
      subst hi2
      rw [List.getElem?_append_right (Nat.le_refl _)] at e1
      rw [List.getElem?_append_right (by rw [x.len]; exact Nat.le_refl _)] at e2
      simp at e1
      rw [x.len] at e2
      simp at e2
      exact ⟨rfl, e1.symm, e2.symm⟩
  refine ⟨⟨by simp [x.len], ?_, fun b q e => ?_, fun i e q e1 e2 => ?_, fun i e q e1 e2 => ?_, x.dec, fun q hq => ⟨by rw [upd_ne (hne q hq)]; exact (x.hld q hq).1, (x.hld q hq).2.1, fun z => by
    rcases List.mem_append.mp z with z | z
    · exact (x.hld q hq).2.2 z
    · simp at z
      exact hne q hq z⟩, x.hnd, fun b hb => ⟨?_, fun i e q hi e1 e2 => ?_⟩⟩, hle⟩
  · exact List.nodup_append.mpr ⟨x.nd, by simp, fun a ha b hb e => by simp at hb; subst hb; subst e; exact hmem ha⟩
  · rw [upd_ne (ne_of_none (x.ex b q e) hp)]
    exact x.ex b q e
  · rcases old i e q e1 e2 with ⟨h1, h2⟩ | ⟨_, rfl, rfl⟩
    · exact x.off i e q h1 h2
    · exact .inr ⟨hlk, x.ex.free hp⟩
  · rcases old i e q e1 e2 with ⟨h1, h2⟩ | ⟨_, rfl, rfl⟩
    · obtain ⟨o', e3, rr⟩ := x.obj i e q h1 h2
      exact ⟨o', by rw [upd_ne (hna i e q h1 h2)]; exact e3, rr.mono hle⟩
    · exact ⟨o, upd_same, r.mono hle⟩
  · have := (x.low b hb).1
    simp
    omega
  · have hlt : i < s.objs.length := Nat.lt_of_lt_of_le hi (x.low b hb).1
    rcases old i e q e1 e2 with ⟨h1, h2⟩ | ⟨h, _, _⟩
    · obtain ⟨o', e3, rr⟩ := (x.low b hb).2 i e q hi h1 h2
      exact ⟨o', by rw [upd_ne (hna i e q h1 h2)]; exact e3, rr.mono (cut_mono hle b)⟩
    · omega

mutual
/-- what holds no number from n on -/
def lowD (n : Nat) : D → Bool
  | .tup xs => lowL n xs
  | .lst xs => lowL n xs
  | .scr xs => lowL n xs
  | .gtp xs => lowL n xs
  | .dT _ vs => lowL n vs
  | .dK _ vs => lowL n vs
  | .lckT _ vs => lowL n vs
  | .lckK _ vs => lowL n vs
  | .ins _ _ vs => lowL n vs
  | .ref a => decide (a < n)
  | _ => true
def lowL (n : Nat) : List D → Bool
  | [] => true
  | x :: xs => lowD n x && lowL n xs
end
mutual
theorem RD.cut {w : W} {n : Nat} : ∀ {d : D} {v : V}, RD K mg w d v → lowD n d = true → RD K mg (w.cut n) d v
  | _, _, .non, _ => .non
  | _, _, .bl b, _ => .bl b
  | _, _, .int i, _ => .int i
  | _, _, .str x, _ => .str x
  | _, _, .tup q r, h => .tup q (RL.cut r (by simpa only [lowD] using h))
  | _, _, .lst q r, h => .lst q (RL.cut r (by simpa only [lowD] using h))
  | _, _, .scr q r, h => .scr q (RL.cut r (by simpa only [lowD] using h))
  | _, _, .gtp q r, h => .gtp q (RL.cut r (by simpa only [lowD] using h))
  | _, _, .dT q e r, h => .dT q e (RL.cut r (by simpa only [lowD] using h))
  | _, _, .dK q e r, h => .dK q e (RL.cut r (by simpa only [lowD] using h))
  | _, _, .lckT q e r, h => .lckT q e (RL.cut r (by simpa only [lowD] using h))
  | _, _, .lckK q e r, h => .lckK q e (RL.cut r (by simpa only [lowD] using h))
  | _, _, .ins q c e r, h => .ins q c e (RL.cut r (by simpa only [lowD] using h))
  | _, _, .ref (i := i) e, h => .ref (by
      have h' : i < n := by simpa only [lowD, decide_eq_true_eq] using h
      exact (List.getElem?_take_of_lt h').trans e)
  | _, _, .glo e, _ => .glo e
theorem RL.cut {w : W} {n : Nat} : ∀ {ds : List D} {vs : List V}, RL K mg w ds vs → lowL n ds = true → RL K mg (w.cut n) ds vs
  | _, _, .nil, _ => .nil
  | _, _, .cons a b, h => by
    rw [lowL, Bool.and_eq_true] at h
    exact .cons (RD.cut a h.1) (RL.cut b h.2)
end

/-! ### more about the store -/
/-- a thing that no one reads -/
theorem Sto.other {w : W} {s : S} {H : Hp} {p : Addr} {o : HO} (x : Sto K mg w s H) (hp : H p = none) : Sto K mg w s (upd H p o) := by
  have ne : ∀ {q u}, H q = some u → q ≠ p := fun e => ne_of_none e hp
  refine ⟨x.len, x.nd, fun b q e => ?_, x.off, fun i d q e1 e2 => ?_, x.dec, fun q hq => ⟨?_, (x.hld q hq).2⟩, x.hnd, fun b hb => ⟨(x.low b hb).1, fun i d q hi e1 e2 => ?_⟩⟩
  · rw [upd_ne (ne (x.ex b q e))]
    exact x.ex b q e
  · obtain ⟨u, h1, h2⟩ := x.obj i d q e1 e2
    exact ⟨u, by rw [upd_ne (ne h1)]; exact h1, h2⟩
  · rw [upd_ne (ne (x.hld q hq).1)]
    exact (x.hld q hq).1
  · obtain ⟨u, h1, h2⟩ := (x.low b hb).2 i d q hi e1 e2
    exact ⟨u, by rw [upd_ne (ne h1)]; exact h1, h2⟩
/-- an object written -/
theorem Sto.put {w : W} {s : S} {H : Hp} {p : Addr} {o : HO} {d : D} {i : Nat} (x : Sto K mg w s H) (hi : w.α[i]? = some p) (r : RO K mg w d o) (hb : ∀ b ∈ s.bases, i < b → RO K mg (w.cut b) d o) (hold : ∀ c, s.objs[i]? = some c → isLck c = false) (hnew : isLck d = false) :
    Sto K mg w ⟨s.bases, s.objs.set i d⟩ (upd H p o) := by
  have hm : p ∈ w.α := List.mem_of_getElem? hi
  have hil : i < s.objs.length := by rw [x.len]; exact (List.getElem?_eq_some_iff.mp hi).1
  have hFp : w.F p = none := by
    rcases x.off i _ p (List.getElem?_eq_getElem hil) hi with ⟨h, _⟩ | ⟨_, h⟩
    · rw [hold _ (List.getElem?_eq_getElem hil)] at h
      cases h
    · exact h
  have inj : ∀ {j q}, w.α[j]? = some q → (j = i ↔ q = p) := fun {j q} e => by
    constructor
    · intro h
      subst h
      rw [hi] at e
      exact (Option.some.inj e).symm
    · intro h
      subst h
      obtain ⟨h1, e1⟩ := List.getElem?_eq_some_iff.mp e
      obtain ⟨h2, e2⟩ := List.getElem?_eq_some_iff.mp hi
      exact (List.getElem_inj x.nd).mp (e1.trans e2.symm)
  have both : ∀ (Rr : D → HO → Prop) (j : Nat) e q, (Rr d o) → (∃ u, s.objs[j]? = some e → H q = some u ∧ Rr e u) → (s.objs.set i d)[j]? = some e → w.α[j]? = some q → ∃ u, upd H p o q = some u ∧ Rr e u := fun Rr j e q h0 h1 e1 e2 => by
    by_cases hj : j = i
    · have hq := (inj e2).mp hj
      subst hj hq
      rw [List.getElem?_set_self hil] at e1
      cases e1
      exact ⟨o, upd_same, h0⟩
    · have hq : q ≠ p := fun z => hj ((inj e2).mpr z)
      rw [List.getElem?_set_ne (fun z => hj z.symm)] at e1
      obtain ⟨u, h1⟩ := h1
      obtain ⟨h2, h3⟩ := h1 e1
      exact ⟨u, by rw [upd_ne hq]; exact h2, h3⟩
  refine ⟨by simp [x.len], x.nd, fun b q e => ?_, fun j e q e1 e2 => ?_, fun j e q e1 e2 => ?_, x.dec, fun q hq => ⟨?_, (x.hld q hq).2⟩, x.hnd, fun b hbb => ⟨by simpa using (x.low b hbb).1, fun j e q hj e1 e2 => ?_⟩⟩
  · have hq : b ≠ p := fun z => by
      rw [z, hFp] at e
      cases e
    rw [upd_ne hq]
    exact x.ex b q e
  · by_cases hj : j = i
    · have hq := (inj e2).mp hj
      subst hj hq
      rw [List.getElem?_set_self hil] at e1
      cases e1
      exact .inr ⟨hnew, hFp⟩
    · rw [List.getElem?_set_ne (fun z => hj z.symm)] at e1
      exact x.off j e q e1 e2
  · refine both (RO K mg w) j e q r ?_ e1 e2
    by_cases hs : s.objs[j]? = some e
    · obtain ⟨u, h1, h2⟩ := x.obj j e q hs e2
      exact ⟨u, fun _ => ⟨h1, h2⟩⟩
    · exact ⟨o, fun z => absurd z hs⟩
  · have hq' : q.1 ≠ p := fun z => (x.hld q hq).2.2 (by rw [z]; exact hm)
    rw [upd_ne hq']
    exact (x.hld q hq).1
  · by_cases hji : j = i
    · have hq := (inj e2).mp hji
      subst hji hq
      rw [List.getElem?_set_self hil] at e1
      cases e1
      exact ⟨o, upd_same, hb b hbb hj⟩
    · have hq : q ≠ p := fun z => hji ((inj e2).mpr z)
      rw [List.getElem?_set_ne (fun z => hji z.symm)] at e1
      obtain ⟨u, h1, h2⟩ := (x.low b hbb).2 j e q hj e1 e2
      exact ⟨u, by rw [upd_ne hq]; exact h1, h2⟩
/-- a thing held apart: made, written, let go -/
theorem Sto.holdNew {w : W} {s : S} {H : Hp} {p : Addr} {o : HO} (x : Sto K mg w s H) (hp : H p = none) : Sto K mg ⟨w.F, w.α, (p, o) :: w.hold⟩ s (upd H p o) := by
  have y := x.other (o := o) hp
  have hna : p ∉ w.α := fun hm => by
    obtain ⟨i, hi⟩ := List.getElem?_of_mem hm
    have hlt : i < s.objs.length := by rw [x.len]; exact (List.getElem?_eq_some_iff.mp hi).1
    obtain ⟨u, h1, _⟩ := x.obj i _ p (List.getElem?_eq_getElem hlt) hi
    rw [hp] at h1
    cases h1
  have hnh : p ∉ w.hold.map (·.1) := fun hm => by
    obtain ⟨q, hq, e⟩ := List.mem_map.mp hm
    have := (x.hld q hq).1
    rw [e, hp] at this
    cases this
  have le0 : w.le0 ⟨w.F, w.α, (p, o) :: w.hold⟩ := ⟨Same.refl _, List.prefix_refl _⟩
  refine ⟨y.len, y.nd, y.ex, y.off, fun i d q e1 e2 => ?_, y.dec, fun q hq => ?_, List.nodup_cons.mpr ⟨hnh, y.hnd⟩, fun b hb => ⟨(y.low b hb).1, fun i d q hi e1 e2 => ?_⟩⟩
  · obtain ⟨u, k1, k2⟩ := y.obj i d q e1 e2
    exact ⟨u, k1, k2.mono0 le0⟩
  rotate_left
  · obtain ⟨u, k1, k2⟩ := (y.low b hb).2 i d q hi e1 e2
    exact ⟨u, k1, k2.mono0 (cut_mono0 le0 b)⟩
  rcases List.mem_cons.mp hq with hq | hq
  · subst hq
    exact ⟨upd_same, x.ex.free hp, hna⟩
  · exact y.hld q hq
theorem Sto.holdSet {w : W} {s : S} {H : Hp} {p : Addr} {o u : HO} {hs : List (Addr × HO)} (x : Sto K mg ⟨w.F, w.α, (p, o) :: hs⟩ s H) : Sto K mg ⟨w.F, w.α, (p, u) :: hs⟩ s (upd H p u) := by
  obtain ⟨h1, h2, h3⟩ := x.hld (p, o) (List.mem_cons_self ..)
  have nd := List.nodup_cons.mp x.hnd
  have le0 : (⟨w.F, w.α, (p, o) :: hs⟩ : W).le0 ⟨w.F, w.α, (p, u) :: hs⟩ := ⟨Same.refl _, List.prefix_refl _⟩
  refine ⟨x.len, x.nd, fun b q e => ?_, x.off, fun i d q e1 e2 => ?_, x.dec, fun q hq => ?_, List.nodup_cons.mpr nd, fun b hb => ⟨(x.low b hb).1, fun i d q hi e1 e2 => ?_⟩⟩
  · have hq : b ≠ p := fun z => by
      subst z
      have h2 : w.F b = none := h2
      have e : w.F b = some q := e
      rw [h2] at e
      cases e
    rw [upd_ne hq]
    exact x.ex b q e
  · obtain ⟨v, k1, k2⟩ := x.obj i d q e1 e2
    have hq : q ≠ p := fun z => h3 (by rw [← z]; exact List.mem_of_getElem? e2)
    exact ⟨v, by rw [upd_ne hq]; exact k1, k2.mono0 le0⟩
  · rcases List.mem_cons.mp hq with hq | hq
    · subst hq
      exact ⟨upd_same, h2, h3⟩
    · have hne : q.1 ≠ p := fun z => nd.1 (by rw [← z]; exact List.mem_map_of_mem (f := (·.1)) hq)
      have := x.hld q (List.mem_cons_of_mem _ hq)
      exact ⟨by rw [upd_ne hne]; exact this.1, this.2⟩
  · obtain ⟨v, k1, k2⟩ := (x.low b hb).2 i d q hi e1 e2
    have hq : q ≠ p := fun z => h3 (by
      rw [← z]
      exact List.mem_of_getElem? e2)
    exact ⟨v, by rw [upd_ne hq]; exact k1, k2.mono0 (cut_mono0 le0 b)⟩
theorem Sto.holdEnd {w : W} {s : S} {H : Hp} {p : Addr} {o : HO} {hs : List (Addr × HO)} (x : Sto K mg ⟨w.F, w.α, (p, o) :: hs⟩ s H) : Sto K mg ⟨upd w.F p o, w.α, hs⟩ s H ∧ w.le0 ⟨upd w.F p o, w.α, hs⟩ := by
  obtain ⟨h1, h2, h3⟩ := x.hld (p, o) (List.mem_cons_self ..)
  have h2 : w.F p = none := h2
  have nd := List.nodup_cons.mp x.hnd
  have le : w.le0 ⟨upd w.F p o, w.α, hs⟩ := ⟨fun b q e => by show upd w.F p o b = some q; rw [upd_ne (ne_of_none e h2)]; exact e, List.prefix_refl _⟩
  have le' : (⟨w.F, w.α, (p, o) :: hs⟩ : W).le0 ⟨upd w.F p o, w.α, hs⟩ := ⟨le.sm, le.pf⟩
  refine ⟨⟨x.len, x.nd, fun b q e => ?_, fun i d q e1 e2 => ?_, fun i d q e1 e2 => ?_, x.dec, fun q hq => ?_, nd.2, fun b hb => ⟨(x.low b hb).1, fun i d q hi e1 e2 => ?_⟩⟩, le⟩
  · have e : upd w.F p o b = some q := e
    by_cases hq : b = p
    · subst hq
      rw [upd_same] at e
      cases e
      exact h1
    · rw [upd_ne hq] at e
      exact x.ex b q e
  · have hne : q ≠ p := fun z => h3 (by rw [← z]; exact List.mem_of_getElem? e2)
    show (_ ∧ ∃ u, upd w.F p o q = some u) ∨ (_ ∧ upd w.F p o q = none)
    rw [upd_ne hne]
    exact x.off i d q e1 e2
  · obtain ⟨v, k1, k2⟩ := x.obj i d q e1 e2
    exact ⟨v, k1, k2.mono0 le'⟩
  · have hne : q.1 ≠ p := fun z => nd.1 (by rw [← z]; exact List.mem_map_of_mem (f := (·.1)) hq)
    have := x.hld q (List.mem_cons_of_mem _ hq)
    exact ⟨this.1, by show upd w.F p o q.1 = none; rw [upd_ne hne]; exact this.2.1, this.2.2⟩
  · obtain ⟨v, k1, k2⟩ := (x.low b hb).2 i d q hi e1 e2
    exact ⟨v, k1, k2.mono0 (cut_mono0 le' b)⟩
/-- a frame begun, a frame ended with all kept -/
theorem Sto.push {w : W} {s : S} {H : Hp} (x : Sto K mg w s H) : Sto K mg w ⟨s.objs.length :: s.bases, s.objs⟩ H := by
  refine ⟨x.len, x.nd, x.ex, x.off, x.obj, List.pairwise_cons.mpr ⟨fun b hb => (x.low b hb).1, x.dec⟩, x.hld, x.hnd, fun b hb => ?_⟩
  rcases List.mem_cons.mp hb with hb | hb
  · subst hb
    refine ⟨Nat.le_refl _, fun i d q hi e1 e2 => ?_⟩
    obtain ⟨v, k1, k2⟩ := x.obj i d q e1 e2
    refine ⟨v, k1, ?_⟩
    have e : w.cut s.objs.length = w := by
      unfold W.cut
      rw [x.len, List.take_length]
    rw [e]
    exact k2
  · exact x.low b hb
theorem Sto.drop {w : W} {b : Nat} {bs : List Nat} {os : List D} {H : Hp} (x : Sto K mg w ⟨b :: bs, os⟩ H) : Sto K mg w ⟨bs, os⟩ H :=
  ⟨x.len, x.nd, x.ex, x.off, x.obj, (List.pairwise_cons.mp x.dec).2, x.hld, x.hnd, fun c hc => x.low c (List.mem_cons_of_mem _ hc)⟩

mutual
/-- numbers replaced by what they stand for -/
def sub (g : Nat → Option D) : D → Option D
  | .tup xs => (subL g xs).map .tup
  | .lst xs => (subL g xs).map .lst
  | .scr xs => (subL g xs).map .scr
  | .gtp xs => (subL g xs).map .gtp
  | .dT ks vs => (subL g vs).map (.dT ks)
  | .dK ks vs => (subL g vs).map (.dK ks)
  | .lckT ks vs => (subL g vs).map (.lckT ks)
  | .lckK ks vs => (subL g vs).map (.lckK ks)
  | .ins c ns vs => (subL g vs).map (.ins c ns)
  | .ref a => g a
  | .non => some .non
  | .bl b => some (.bl b)
  | .int i => some (.int i)
  | .str x => some (.str x)
  | .glo x => some (.glo x)
def subL (g : Nat → Option D) : List D → Option (List D)
  | [] => some []
  | x :: xs => match sub g x, subL g xs with
    | some y, some ys => some (y :: ys)
    | _, _ => none
end
def frzN (b : Nat) (objs : List D) : Nat → Nat → Option D
  | 0, a => if a < b then some (.ref a) else none
  | n + 1, a => if a < b then some (.ref a) else match objs[a]? with
    | some d => sub (frzN b objs n) d
    | none => none
/-- a value as it leaves its frame -/
def fz (b : Nat) (objs : List D) (d : D) : Option D := sub (frzN b objs 9) d
theorem map_some {α β : Type} {f : α → β} {o : Option α} {y : β} (e : o.map f = some y) : ∃ a, o = some a ∧ f a = y := by
  cases o with
  | none => cases e
  | some a => exact ⟨a, rfl, Option.some.inj e⟩
theorem SqT.same {w w' : W} (h : Same w.F w'.F) {a : Addr} {xs : List V} (q : SqT K w.F a xs) : SqT K w'.F a xs := same_t h q
mutual
theorem sub_rd {w w' : W} {g : Nat → Option D} (h : Same w.F w'.F) (hg : ∀ i p d, w.α[i]? = some p → g i = some d → RD K mg w' d (.ref p)) : ∀ {d d' : D} {v : V}, RD K mg w d v → sub g d = some d' → RD K mg w' d' v
  | _, _, _, .non, e => by rw [sub] at e; cases e; exact .non
  | _, _, _, .bl b, e => by rw [sub] at e; cases e; exact .bl b
  | _, _, _, .int i, e => by rw [sub] at e; cases e; exact .int i
  | _, _, _, .str x, e => by rw [sub] at e; cases e; exact .str x
  | _, _, _, .tup q r, e => by
    rw [sub] at e
    obtain ⟨ys, e1, e2⟩ := map_some e
    subst e2
    exact .tup (h _ _ q) (subL_rd h hg r e1)
  | _, _, _, .gtp q r, e => by
    rw [sub] at e
    obtain ⟨ys, e1, e2⟩ := map_some e
    subst e2
    exact .gtp (same_t h q) (subL_rd h hg r e1)
  | _, _, _, .lst q r, e => by
    rw [sub] at e
    obtain ⟨ys, e1, e2⟩ := map_some e
    subst e2
    exact .lst (h _ _ q) (subL_rd h hg r e1)
  | _, _, _, .scr q r, e => by
    rw [sub] at e
    obtain ⟨ys, e1, e2⟩ := map_some e
    subst e2
    exact .scr (h.seq q) (subL_rd h hg r e1)
  | _, _, _, .dT q ek r, e => by
    rw [sub] at e
    obtain ⟨ys, e1, e2⟩ := map_some e
    subst e2
    exact .dT (h _ _ q) ek (subL_rd h hg r e1)
  | _, _, _, .dK q ek r, e => by
    rw [sub] at e
    obtain ⟨ys, e1, e2⟩ := map_some e
    subst e2
    exact .dK (h _ _ q) ek (subL_rd h hg r e1)
  | _, _, _, .lckT q ek r, e => by
    rw [sub] at e
    obtain ⟨ys, e1, e2⟩ := map_some e
    subst e2
    exact .lckT (h _ _ q) ek (subL_rd h hg r e1)
  | _, _, _, .lckK q ek r, e => by
    rw [sub] at e
    obtain ⟨ys, e1, e2⟩ := map_some e
    subst e2
    exact .lckK (h _ _ q) ek (subL_rd h hg r e1)
  | _, _, _, .ins q c ek r, e => by
    rw [sub] at e
    obtain ⟨ys, e1, e2⟩ := map_some e
    subst e2
    exact .ins (h _ _ q) c ek (subL_rd h hg r e1)
  | _, _, _, .ref ei, e => by
    rw [sub] at e
    exact hg _ _ _ ei e
  | _, _, _, .glo c, e => by rw [sub] at e; cases e; exact .glo c
theorem subL_rd {w w' : W} {g : Nat → Option D} (h : Same w.F w'.F) (hg : ∀ i p d, w.α[i]? = some p → g i = some d → RD K mg w' d (.ref p)) : ∀ {ds ds' : List D} {vs : List V}, RL K mg w ds vs → subL g ds = some ds' → RL K mg w' ds' vs
  | _, _, _, .nil, e => by rw [subL] at e; cases e; exact .nil
  | _, _, _, .cons (d := d) (ds := ds) a b, e => by
    rw [subL] at e
    cases h1 : sub g d with
    | none => rw [h1] at e; cases e
    | some y =>
      cases h2 : subL g ds with
      | none => rw [h1, h2] at e; cases e
      | some ys =>
        rw [h1, h2] at e
        cases e
        exact .cons (sub_rd h hg a h1) (subL_rd h hg b h2)
end
theorem sub_ro {w w' : W} {g : Nat → Option D} (h : Same w.F w'.F) (hg : ∀ i p d, w.α[i]? = some p → g i = some d → RD K mg w' d (.ref p)) {d d' : D} {o : HO} {p : Addr} (r : RO K mg w d o) (hp : w'.F p = some o) (e : sub g d = some d') : RD K mg w' d' (.ref p) := by
  cases d <;> cases o <;> first
    | (exact r.elim; done)
    | skip
  · rw [sub] at e
    obtain ⟨ys, e1, e2⟩ := map_some e
    subst e2
    exact .lst hp (subL_rd h hg r e1)
  · rw [sub] at e
    obtain ⟨ys, e1, e2⟩ := map_some e
    subst e2
    exact .dT hp r.1 (subL_rd h hg r.2 e1)
  · rw [sub] at e
    obtain ⟨ys, e1, e2⟩ := map_some e
    subst e2
    exact .dK hp r.1 (subL_rd h hg r.2 e1)
  · rename_i o u
    cases u <;> first
      | (exact r.elim; done)
      | skip
    rw [sub] at e
    obtain ⟨ys, e1, e2⟩ := map_some e
    subst e2
    exact .lckT hp r.1 (subL_rd h hg r.2 e1)
  · rename_i o u
    cases u <;> first
      | (exact r.elim; done)
      | skip
    rw [sub] at e
    obtain ⟨ys, e1, e2⟩ := map_some e
    subst e2
    exact .lckK hp r.1 (subL_rd h hg r.2 e1)
  · rw [sub] at e
    obtain ⟨ys, e1, e2⟩ := map_some e
    subst e2
    exact .ins hp r.1 r.2.1 (subL_rd h hg r.2.2 e1)
/-- a frame ended: what it made is frozen -/
theorem Sto.fin {w : W} {b : Nat} {bs : List Nat} {os : List D} {H : Hp} {d d' : D} {v : V} (x : Sto K mg w ⟨b :: bs, os⟩ H) (r : RD K mg w d v) (e : fz b os d = some d') :
    ∃ w', Sto K mg w' ⟨bs, os.take b⟩ H ∧ (w.cut b).le w' ∧ RD K mg w' d' v := by
  have hb : b ≤ os.length := (x.low b (List.mem_cons_self ..)).1
  have hlen : os.length = w.α.length := x.len
  let w' : W := ⟨fun q => if q ∈ w.α.drop b then H q else w.F q, w.α.take b, w.hold⟩
  have sm : Same w.F w'.F := fun q u e => by
    show (if q ∈ w.α.drop b then H q else w.F q) = some u
    split
    · exact x.ex q u e
    · exact e
  have le : (w.cut b).le w' := ⟨⟨sm, List.prefix_refl _⟩, rfl⟩
  have tk : ∀ {i p}, (w.α.take b)[i]? = some p → i < b ∧ w.α[i]? = some p := fun {i p} e => by
    rw [List.getElem?_take] at e
    split at e
    · next hi => exact ⟨hi, e⟩
    · cases e
  have tko : ∀ {i d}, (os.take b)[i]? = some d → i < b ∧ os[i]? = some d := fun {i p} e => by
    rw [List.getElem?_take] at e
    split at e
    · next hi => exact ⟨hi, e⟩
    · cases e
  have notdrop : ∀ {i p}, i < b → w.α[i]? = some p → p ∉ w.α.drop b := fun {i p} hi e z => by
    have nd := x.nd
    rw [← List.take_append_drop b w.α] at nd
    have hm : p ∈ w.α.take b := List.mem_of_getElem? (i := i) (by rw [List.getElem?_take_of_lt hi]; exact e)
    exact (List.nodup_append.mp nd).2.2 p hm p z rfl
  refine ⟨w', ⟨?_, ?_, fun q u e => ?_, fun i d p e1 e2 => ?_, fun i d p e1 e2 => ?_, (List.pairwise_cons.mp x.dec).2, fun q hq => ?_, x.hnd, fun c hc => ?_⟩, le, ?_⟩
  · show (os.take b).length = (w.α.take b).length
    rw [List.length_take, List.length_take, hlen]
  · exact x.nd.sublist (List.take_sublist _ _)
  · have e : (if q ∈ w.α.drop b then H q else w.F q) = some u := e
    split at e
    · exact e
    · exact x.ex q u e
  · obtain ⟨h1, h2⟩ := tko e1
    obtain ⟨_, h3⟩ := tk e2
    show (_ ∧ ∃ u, (if p ∈ w.α.drop b then H p else w.F p) = some u) ∨ (_ ∧ (if p ∈ w.α.drop b then H p else w.F p) = none)
    rw [if_neg (notdrop h1 h3)]
    exact x.off i d p h2 h3
  · obtain ⟨h1, h2⟩ := tko e1
    obtain ⟨_, h3⟩ := tk e2
    obtain ⟨o, k1, k2⟩ := (x.low b (List.mem_cons_self ..)).2 i d p h1 h2 h3
    exact ⟨o, k1, k2.mono le⟩
  · obtain ⟨k1, k2, k3⟩ := x.hld q hq
    refine ⟨k1, ?_, fun z => k3 (List.mem_of_mem_take z)⟩
    show (if q.1 ∈ w.α.drop b then H q.1 else w.F q.1) = none
    rw [if_neg (fun z => k3 (List.mem_of_mem_drop z))]
    exact k2
  · have hcb : c ≤ b := (List.pairwise_cons.mp x.dec).1 c hc
    refine ⟨by show c ≤ (os.take b).length; rw [List.length_take]; omega, fun i d p hi e1 e2 => ?_⟩
    obtain ⟨_, h2⟩ := tko e1
    obtain ⟨_, h3⟩ := tk e2
    obtain ⟨o, k1, k2⟩ := (x.low c (List.mem_cons_of_mem _ hc)).2 i d p hi h2 h3
    have le0 : (w.cut c).le0 (w'.cut c) := ⟨sm, ?_⟩
    exact ⟨o, k1, k2.mono0 le0⟩
    show w.α.take c <+: (w.α.take b).take c
    rw [List.take_take, Nat.min_eq_left hcb]
    exact List.prefix_refl _
  · have key : ∀ (n : Nat) i p d, w.α[i]? = some p → frzN b os n i = some d → RD K mg w' d (.ref p) := fun n => by
      induction n with
      | zero =>
        intro i p d h1 h2
        unfold frzN at h2
        split at h2
        · next hi =>
          cases h2
          exact .ref (by show (w.α.take b)[i]? = some p; rw [List.getElem?_take_of_lt hi]; exact h1)
        · cases h2
      | succ n ih =>
        intro i p d h1 h2
        unfold frzN at h2
        split at h2
        · next hi =>
          cases h2
          exact .ref (by show (w.α.take b)[i]? = some p; rw [List.getElem?_take_of_lt hi]; exact h1)
        · next hi =>
          split at h2
          · next dd he =>
            obtain ⟨o, k1, k2⟩ := x.obj i dd p he h1
            refine sub_ro sm ih k2 ?_ h2
            show (if p ∈ w.α.drop b then H p else w.F p) = some o
            rw [if_pos (List.mem_of_getElem? (i := i - b) (by rw [List.getElem?_drop, show b + (i - b) = i by omega]; exact h1))]
            exact k1
          · cases h2
    exact sub_rd sm (key 9) r e

mutual
/-- data without numbers -/
def noRef : D → Bool
  | .tup xs => noRefL xs
  | .lst xs => noRefL xs
  | .scr xs => noRefL xs
  | .gtp xs => noRefL xs
  | .dT _ vs => noRefL vs
  | .dK _ vs => noRefL vs
  | .lckT _ vs => noRefL vs
  | .lckK _ vs => noRefL vs
  | .ins _ _ vs => noRefL vs
  | .ref _ => false
  | _ => true
def noRefL : List D → Bool
  | [] => true
  | x :: xs => noRef x && noRefL xs
end
mutual
theorem sub_noRef (g : Nat → Option D) : ∀ d : D, noRef d = true → sub g d = some d
  | .tup xs, h => by rw [sub, subL_noRef g xs (by simpa only [noRef] using h)]; rfl
  | .lst xs, h => by rw [sub, subL_noRef g xs (by simpa only [noRef] using h)]; rfl
  | .scr xs, h => by rw [sub, subL_noRef g xs (by simpa only [noRef] using h)]; rfl
  | .gtp xs, h => by rw [sub, subL_noRef g xs (by simpa only [noRef] using h)]; rfl
  | .dT _ xs, h => by rw [sub, subL_noRef g xs (by simpa only [noRef] using h)]; rfl
  | .dK _ xs, h => by rw [sub, subL_noRef g xs (by simpa only [noRef] using h)]; rfl
  | .lckT _ xs, h => by rw [sub, subL_noRef g xs (by simpa only [noRef] using h)]; rfl
  | .lckK _ xs, h => by rw [sub, subL_noRef g xs (by simpa only [noRef] using h)]; rfl
  | .ins _ _ xs, h => by rw [sub, subL_noRef g xs (by simpa only [noRef] using h)]; rfl
  | .ref _, h => by simp [noRef] at h
  | .non, _ => by rw [sub]
  | .bl _, _ => by rw [sub]
  | .int _, _ => by rw [sub]
  | .str _, _ => by rw [sub]
  | .glo _, _ => by rw [sub]
theorem subL_noRef (g : Nat → Option D) : ∀ ds : List D, noRefL ds = true → subL g ds = some ds
  | [], _ => by rw [subL]
  | x :: xs, h => by
    rw [noRefL, Bool.and_eq_true] at h
    rw [subL, sub_noRef g x h.1, subL_noRef g xs h.2]
end
mutual
theorem lowD_noRef (n : Nat) : ∀ d : D, noRef d = true → lowD n d = true
  | .tup xs, h => by rw [lowD]; exact lowL_noRef n xs (by simpa only [noRef] using h)
  | .lst xs, h => by rw [lowD]; exact lowL_noRef n xs (by simpa only [noRef] using h)
  | .scr xs, h => by rw [lowD]; exact lowL_noRef n xs (by simpa only [noRef] using h)
  | .gtp xs, h => by rw [lowD]; exact lowL_noRef n xs (by simpa only [noRef] using h)
  | .dT _ xs, h => by rw [lowD]; exact lowL_noRef n xs (by simpa only [noRef] using h)
  | .dK _ xs, h => by rw [lowD]; exact lowL_noRef n xs (by simpa only [noRef] using h)
  | .lckT _ xs, h => by rw [lowD]; exact lowL_noRef n xs (by simpa only [noRef] using h)
  | .lckK _ xs, h => by rw [lowD]; exact lowL_noRef n xs (by simpa only [noRef] using h)
  | .ins _ _ xs, h => by rw [lowD]; exact lowL_noRef n xs (by simpa only [noRef] using h)
  | .ref _, h => by simp [noRef] at h
  | .non, _ => by simp [lowD]
  | .bl _, _ => by simp [lowD]
  | .int _, _ => by simp [lowD]
  | .str _, _ => by simp [lowD]
  | .glo _, _ => by simp [lowD]
theorem lowL_noRef (n : Nat) : ∀ ds : List D, noRefL ds = true → lowL n ds = true
  | [], _ => by rw [lowL]
  | x :: xs, h => by
    rw [noRefL, Bool.and_eq_true] at h
    rw [lowL, lowD_noRef n x h.1, lowL_noRef n xs h.2]
    rfl
end
theorem RO.cut {w : W} {n : Nat} {d : D} {o : HO} (r : RO K mg w d o) (h : lowD n d = true) : RO K mg (w.cut n) d o := by
  cases d <;> cases o <;> first
    | (exact r.elim; done)
    | skip
  · exact RL.cut r (by simpa only [lowD] using h)
  · exact ⟨r.1, RL.cut r.2 (by simpa only [lowD] using h)⟩
  · exact ⟨r.1, RL.cut r.2 (by simpa only [lowD] using h)⟩
  · rename_i o u
    cases u <;> first
      | (exact r.elim; done)
      | exact ⟨r.1, RL.cut r.2 (by simpa only [lowD] using h)⟩
  · rename_i o u
    cases u <;> first
      | (exact r.elim; done)
      | exact ⟨r.1, RL.cut r.2 (by simpa only [lowD] using h)⟩
  · exact ⟨r.1, r.2.1, RL.cut r.2.2 (by simpa only [lowD] using h)⟩

theorem RO.lock {w : W} {d l : D} {o : HO} {od : Obj} (r : RO K mg w d o) (e : lckD d = some l) : RO K mg w l (.frz od o) ∧ isLck l = true ∧ isLck d = false ∧ Mut (some o) := by
  cases d <;> first
    | (cases e; done)
    | skip
  · cases e
    cases o <;> first
      | (exact r.elim; done)
      | exact ⟨r, rfl, rfl, trivial⟩
  · cases e
    cases o <;> first
      | (exact r.elim; done)
      | exact ⟨r, rfl, rfl, trivial⟩
/-- a dict that is read alone from now on -/
theorem Sto.lock {w : W} {s : S} {H : Hp} {p : Addr} {o : HO} {d l : D} {i : Nat} {od : Obj} (x : Sto K mg w s H) (hi : w.α[i]? = some p) (hd : s.objs[i]? = some d) (ho : H p = some o) (r : RO K mg w d o) (e : lckD d = some l) :
    Sto K mg ⟨upd w.F p (.frz od o), w.α, w.hold⟩ ⟨s.bases, s.objs.set i l⟩ (upd H p (.frz od o)) ∧ w.le ⟨upd w.F p (.frz od o), w.α, w.hold⟩ := by
  obtain ⟨r1, r2, r3, _⟩ := r.lock (od := od) e
  have hil : i < s.objs.length := (List.getElem?_eq_some_iff.mp hd).1
  have hFp : w.F p = none := by
    rcases x.off i d p hd hi with ⟨h, _⟩ | ⟨_, h⟩
    · rw [r3] at h
      cases h
    · exact h
  have hle : w.le ⟨upd w.F p (.frz od o), w.α, w.hold⟩ := ⟨⟨fun b q e => by show upd w.F p _ b = some q; rw [upd_ne (ne_of_none e hFp)]; exact e, List.prefix_refl _⟩, rfl⟩
  have inj : ∀ {j q}, w.α[j]? = some q → (j = i ↔ q = p) := fun {j q} e => by
    constructor
    · intro h
      subst h
      rw [hi] at e
      exact (Option.some.inj e).symm
    · intro h
      subst h
      obtain ⟨h1, e1⟩ := List.getElem?_eq_some_iff.mp e
      obtain ⟨h2, e2⟩ := List.getElem?_eq_some_iff.mp hi
      exact (List.getElem_inj x.nd).mp (e1.trans e2.symm)
  have hm : p ∈ w.α := List.mem_of_getElem? hi
  refine ⟨⟨by simp [x.len], x.nd, fun b q e => ?_, fun j e q e1 e2 => ?_, fun j e q e1 e2 => ?_, x.dec, fun q hq => ?_, x.hnd, fun b hbb => ⟨by simpa using (x.low b hbb).1, fun j e q hj e1 e2 => ?_⟩⟩, hle⟩
  · have e : upd w.F p (.frz od o) b = some q := e
    by_cases hb : b = p
    · subst hb
      rw [upd_same] at e ⊢
      exact e
    · rw [upd_ne hb] at e ⊢
      exact x.ex b q e
  · show (_ ∧ ∃ u, upd w.F p (.frz od o) q = some u) ∨ (_ ∧ upd w.F p (.frz od o) q = none)
    by_cases hj : j = i
    · have hq := (inj e2).mp hj
      subst hj hq
      rw [List.getElem?_set_self hil] at e1
      cases e1
      exact .inl ⟨r2, _, upd_same⟩
    · have hq : q ≠ p := fun z => hj ((inj e2).mpr z)
      rw [List.getElem?_set_ne (fun z => hj z.symm)] at e1
      rw [upd_ne hq]
      exact x.off j e q e1 e2
  · by_cases hj : j = i
    · have hq := (inj e2).mp hj
      subst hj hq
      rw [List.getElem?_set_self hil] at e1
      cases e1
      exact ⟨_, upd_same, r1.mono hle⟩
    · have hq : q ≠ p := fun z => hj ((inj e2).mpr z)
      rw [List.getElem?_set_ne (fun z => hj z.symm)] at e1
      obtain ⟨u, h1, h2⟩ := x.obj j e q e1 e2
      exact ⟨u, by rw [upd_ne hq]; exact h1, h2.mono hle⟩
  · have hq' : q.1 ≠ p := fun z => (x.hld q hq).2.2 (by rw [z]; exact hm)
    refine ⟨by rw [upd_ne hq']; exact (x.hld q hq).1, ?_, (x.hld q hq).2.2⟩
    show upd w.F p (.frz od o) q.1 = none
    rw [upd_ne hq']
    exact (x.hld q hq).2.1
  · by_cases hji : j = i
    · have hq := (inj e2).mp hji
      subst hji hq
      rw [List.getElem?_set_self hil] at e1
      cases e1
      obtain ⟨u, h1, h2⟩ := (x.low b hbb).2 j d q hj hd e2
      rw [ho] at h1
      cases h1
      exact ⟨_, upd_same, ((h2.lock (od := od) e).1).mono (cut_mono hle b)⟩
    · have hq : q ≠ p := fun z => hji ((inj e2).mpr z)
      rw [List.getElem?_set_ne (fun z => hji z.symm)] at e1
      obtain ⟨u, h1, h2⟩ := (x.low b hbb).2 j e q hj e1 e2
      exact ⟨u, by rw [upd_ne hq]; exact h1, h2.mono (cut_mono hle b)⟩
end DS
/-! DS1: computations over the store; expressions -/
namespace DS
open PySem L2 PySem.Spec PyProof.Rows
variable {K : PySem.W.Frag} {mg : Str → Option Value}

abbrev En := List (Option D)
/-- a computation: stuck, an error (an instance), or an answer -/
abbrev M (α : Type) := S → Option (Except D α × S)
def ret {α : Type} (a : α) : M α := fun s => some (.ok a, s)
def stuck {α : Type} : M α := fun _ => none
def bnd {α β : Type} (m : M α) (g : α → M β) : M β := fun s => match m s with
  | none => none
  | some (.error x, s1) => some (.error x, s1)
  | some (.ok a, s1) => g a s1
@[simp] theorem bnd_ret {α β : Type} (a : α) (g : α → M β) : bnd (ret a) g = g a := rfl
@[simp] theorem bnd_stuck {α β : Type} (g : α → M β) : bnd stuck g = stuck := rfl
theorem bnd_bnd {α β γ : Type} (m : M α) (g : α → M β) (h : β → M γ) : bnd (bnd m g) h = bnd m fun a => bnd (g a) h := by
  funext s
  unfold bnd
  cases m s with
  | none => rfl
  | some p =>
    obtain ⟨r, s1⟩ := p
    cases r <;> rfl
def CAP : Nat := 100000
theorem cap_line {n : Nat} (h : n ≤ CAP) : n ≤ sizeLine := Nat.le_trans h (by decide)

def EnR (K : PySem.W.Frag) (mg : Str → Option Value) (w : W) (ρ : En) (σ : L2.St) : Prop :=
  ρ.length = σ.length ∧ ∀ (i : Nat) (d : D), ρ[i]? = some (some d) → ∃ v, σ[i]? = some (some v) ∧ RD K mg w d v
theorem EnR.mono {w w' : W} {ρ : En} {σ : L2.St} (h : w.le w') (e : EnR K mg w ρ σ) : EnR K mg w' ρ σ := ⟨e.1, fun i d q => by
  obtain ⟨v, h1, h2⟩ := e.2 i d q
  exact ⟨v, h1, h2.mono h⟩⟩
theorem EnR.set {w : W} {ρ : En} {σ : L2.St} {i : Nat} {d : D} {v : V} (e : EnR K mg w ρ σ) (r : RD K mg w d v) : EnR K mg w (ρ.set i (some d)) (σ.set i (some v)) := ⟨by simp [e.1], fun j d' q => by
  by_cases hj : i = j
  · subst hj
    have hl : i < ρ.length := by
      have := (List.getElem?_eq_some_iff.mp q).1
      simpa using this
    rw [List.getElem?_set_self hl] at q
    cases q
    exact ⟨v, by rw [List.getElem?_set_self (by rw [← e.1]; exact hl)], r⟩
  · rw [List.getElem?_set_ne hj] at q ⊢
    exact e.2 j d' q⟩
theorem EnR.drop1 {w : W} {ρ : En} {σ : L2.St} {i : Nat} (e : EnR K mg w ρ σ) : EnR K mg w (ρ.set i none) σ := ⟨by simp [e.1], fun j d' q => by
  by_cases hj : i = j
  · subst hj
    have hl : i < ρ.length := by
      have := (List.getElem?_eq_some_iff.mp q).1
      simpa using this
    rw [List.getElem?_set_self hl] at q
    cases q
  · rw [List.getElem?_set_ne hj] at q
    exact e.2 j d' q⟩

/-- an error as it lies: its class, its fields -/
def RX (K : PySem.W.Frag) (mg : Str → Option Value) (w : W) (x : D) (cls : Value) (dx : Option Addr) : Prop :=
  ∃ (c : Str) (ns : List Str) (ds : List D) (C d : Addr) (fs : List (Str × V)), x = .ins c ns ds ∧ mg c = some (.ref C) ∧ cls = .ref C ∧ dx = some d ∧ w.F d = some (.xd fs) ∧ fs.map (·.1) = ns ∧ RL K mg w ds (fs.map (·.2))

section
variable {α β : Type} (K mg)
/-- what a computation's end must give -/
def Pst (R : W → α → β → Prop) (Wx : XK) (w : W) (σ : L2.St) (Q : β → Hp → Prop) (s : S) : Except D α → Prop
  | .ok a => ∀ w' b H, w.le w' → R w' a b → Sto K mg w' s H → Q b H
  | .error x => ∀ w' cls dx H, w.le w' → RX K mg w' x cls dx → Sto K mg w' s H → Wx cls dx H
def Run (R : W → α → β → Prop) (Wx : XK) (m : M α) (w : W) (s : S) (σ : L2.St) (H : Hp) (Q : β → Hp → Prop) : Prop :=
  Sto K mg w s H ∧ ∃ r s', m s = some (r, s') ∧ Pst K mg R Wx w σ Q s' r
def rd (R : W → α → β → Prop) (Wx : XK) (f : En → M α) : L2.St → Hp → (β → Hp → Prop) → Prop := fun σ H Q =>
  ∃ w ρ s, EnR K mg w ρ σ ∧ Run K mg R Wx (f ρ) w s σ H Q
end
section
variable {α α' β β' : Type} {R : W → α → β → Prop} {R' : W → α' → β' → Prop} {Wx : XK} {w : W} {s : S} {σ : L2.St} {H : Hp}
theorem Run.sto {m : M α} {Q : β → Hp → Prop} (h : Run K mg R Wx m w s σ H Q) : Sto K mg w s H := h.1
theorem Run.bind {m : M α} {g : α → M α'} {Q : β' → Hp → Prop} {Q1 : β → Hp → Prop} (h : Run K mg R' Wx (bnd m g) w s σ H Q)
    (k : ∀ w1 a b H1 s1, w.le w1 → R w1 a b → Run K mg R' Wx (g a) w1 s1 σ H1 Q → Q1 b H1) : Run K mg R Wx m w s σ H Q1 := by
  obtain ⟨st, r, s', e, p⟩ := h
  unfold bnd at e
  refine ⟨st, ?_⟩
  cases hm : m s with
  | none => rw [hm] at e; cases e
  | some q =>
    obtain ⟨r1, s1⟩ := q
    rw [hm] at e
    cases r1 with
    | error x =>
      cases e
      exact ⟨_, _, rfl, p⟩
    | ok a =>
      refine ⟨_, _, rfl, fun w1 b H1 le1 ra st1 => k w1 a b H1 s1 le1 ra ⟨st1, r, s', e, ?_⟩⟩
      cases r with
      | ok a' => exact fun w2 b2 H2 le2 => p w2 b2 H2 (le1.trans le2)
      | error x => exact fun w2 c d H2 le2 => p w2 c d H2 (le1.trans le2)
theorem Run.get {a : α} {Q : β → Hp → Prop} (h : Run K mg R Wx (ret a) w s σ H Q) {w' : W} {b : β} {H' : Hp} (le : w.le w') (r : R w' a b) (st : Sto K mg w' s H') : Q b H' := by
  obtain ⟨_, r', s', e, p⟩ := h
  cases e
  exact p w' b H' le r st
theorem Run.here {a : α} {Q : β → Hp → Prop} (h : Run K mg R Wx (ret a) w s σ H Q) {b : β} (r : R w a b) : Q b H := h.get (W.le.refl w) r h.1
theorem Run.no {Q : β → Hp → Prop} {P : Prop} (h : Run K mg R Wx stuck w s σ H Q) : P := by
  obtain ⟨_, r', s', e, p⟩ := h
  cases e
/-- a new frozen thing -/
theorem Run.froz {a : α} {Q : β → Hp → Prop} (h : Run K mg R Wx (ret a) w s σ H Q) {p : Addr} {o : HO} {b : β} (hp : H p = none) (r : ∀ w', w.le w' → w'.F p = some o → R w' a b) : Q b (upd H p o) := by
  obtain ⟨st, le⟩ := h.1.froz (o := o) hp
  exact h.get le (r _ le upd_same) st
end

abbrev RB : W → Bool → Bool → Prop := fun _ a b => a = b
abbrev PD (X : Cx) (Wx : XK) (e : Expr) (f : En → M D) : Prop := PE X e (rd X.K X.mg (RD X.K X.mg) Wx f)
abbrev PDT (X : Cx) (Wx : XK) (e : Expr) (f : En → M Bool) : Prop := PT X e (rd X.K X.mg RB Wx f)
abbrev PDW (X : Cx) (Wx : XK) (e : Expr) (f : En → M Bool) : Prop := PW X e (rd X.K X.mg RB Wx f)
abbrev PDA (X : Cx) (Wx : XK) (es : List Expr) (f : En → M (List D)) : Prop := PA X es (rd X.K X.mg (RL X.K X.mg) Wx f)

theorem pe_mono {X : Cx} {e : Expr} {t t' : TE} (h : PE X e t) (i : ∀ σ H Q, t' σ H Q → t σ H Q) : PE X e t' := ⟨fun pins s σ H Q I q => h.run pins s σ H Q I (i σ H Q q)⟩
theorem pt_mono {X : Cx} {e : Expr} {t t' : TT} (h : PT X e t) (i : ∀ σ H Q, t' σ H Q → t σ H Q) : PT X e t' := ⟨fun pins s σ H Q I q => h.run pins s σ H Q I (i σ H Q q)⟩
theorem pw_mono {X : Cx} {e : Expr} {t t' : TT} (h : PW X e t) (i : ∀ σ H Q, t' σ H Q → t σ H Q) : PW X e t' := ⟨fun wh pins s σ H Q I q => h.run wh pins s σ H Q I (i σ H Q q)⟩
theorem pa_mono {X : Cx} {e : List Expr} {t t' : TA} (h : PA X e t) (i : ∀ σ H Q, t' σ H Q → t σ H Q) : PA X e t' := ⟨fun pos pins s σ H Q I q => h.run pos pins s σ H Q I (i σ H Q q)⟩

/-! ### names, constants -/
def dVar (i : Nat) : En → M D := fun ρ => match ρ[i]? with
  | some (some d) => ret d
  | _ => stuck
def dC (d : D) : En → M D := fun _ => ret d
section
variable {X : Cx} {Wx : XK}
theorem pd_var (i : Nat) {x : Str} {pos : Pos} (hN : X.N[i]? = some x := by rfl) (hv : Vis X.env.scope x := by first | exact Or.inl rfl | exact Or.inr (Or.inl rfl) | exact Or.inr (Or.inr rfl)) (hd : (x == ("__debug__" : Str)) = false := by decide)
    (hcd : (x == ("__classdict__" : Str)) = false := by decide) : PD X Wx (.Name x pos) (dVar i) := pe_mono (pe_var hN hv hd hcd) fun σ H Q ⟨w, ρ, s, env, run⟩ => by
  unfold dVar at run
  split at run
  · next d e =>
    obtain ⟨v, e2, r⟩ := env.2 i d e
    exact ⟨v, e2, run.here r⟩
  · exact run.no
theorem pd_k {e : Expr} {d : D} {v : V} (h : PE X e (tC v)) (r : ∀ w, RD X.K X.mg w d v) : PD X Wx e (dC d) := pe_mono h fun σ H Q ⟨w, ρ, s, env, run⟩ => Run.here run (r w)
theorem pd_int {i : Int} {j pos} : PD X Wx (.Constant (.int i) j pos) (dC (.int i)) := pd_k pe_int fun _ => .int i
theorem pd_bl {b : Bool} {j pos} : PD X Wx (.Constant (.bool b) j pos) (dC (.bl b)) := pd_k pe_bl fun _ => .bl b
theorem pd_non {j pos} : PD X Wx (.Constant .none j pos) (dC .non) := pd_k pe_non fun _ => .non
theorem pd_str {x j pos} : PD X Wx (.Constant (.str x) j pos) (dC (.str x)) := pd_k pe_str fun _ => .str x
/-- a module's constant -/
theorem pd_glob {x : Str} {d : D} {v : V} {u : Value} {pos : Pos} (hm : X.mg x = some u) (rv : RelV v u) (r : ∀ w, RD X.K X.mg w d v) (hg : Gl X x := by rfl) (hd : (x == ("__debug__" : Str)) = false := by decide) : PD X Wx (.Name x pos) (dC d) :=
  pd_k (pe_glob hg hm rv hd) r
end

/-! ### two operands -/
/-- an operation on data is one on values -/
def Im2 (K : PySem.W.Frag) (mg : Str → Option Value) (o : D → D → M D) (r : R2) : Prop :=
  ∀ {Wx : XK} {w : W} {s : S} {σ : L2.St} {H : Hp} {x y : D} {vx vy : V} {Q : VK}, RD K mg w x vx → RD K mg w y vy → Run K mg (RD K mg) Wx (o x y) w s σ H Q → r vx vy H Q
def Im1 (K : PySem.W.Frag) (mg : Str → Option Value) (o : D → M D) (r : V → Hp → VK → Prop) : Prop :=
  ∀ {Wx : XK} {w : W} {s : S} {σ : L2.St} {H : Hp} {x : D} {vx : V} {Q : VK}, RD K mg w x vx → Run K mg (RD K mg) Wx (o x) w s σ H Q → r vx H Q
def ImL (K : PySem.W.Frag) (mg : Str → Option Value) (o : List D → M D) (r : List V → Hp → VK → Prop) : Prop :=
  ∀ {Wx : XK} {w : W} {s : S} {σ : L2.St} {H : Hp} {xs : List D} {vs : List V} {Q : VK}, RL K mg w xs vs → Run K mg (RD K mg) Wx (o xs) w s σ H Q → r vs H Q
theorem Im2.or {o : D → D → M D} {r r' : R2} (h : ∀ {Wx : XK} {w : W} {s : S} {σ : L2.St} {H : Hp} {x y : D} {vx vy : V} {Q : VK}, RD K mg w x vx → RD K mg w y vy → Run K mg (RD K mg) Wx (o x y) w s σ H Q → r vx vy H Q ∨ r' vx vy H Q) : Im2 K mg o (fun x y H Q => r x y H Q ∨ r' x y H Q) := h
def dBin (o : D → D → M D) (f g : En → M D) : En → M D := fun ρ => bnd (f ρ) fun x => bnd (g ρ) fun y => o x y
def dUn (o : D → M D) (f : En → M D) : En → M D := fun ρ => bnd (f ρ) o
section
variable {X : Cx} {Wx : XK} {a b c : Expr} {f g k : En → M D} {pos : Pos} {r r' : R2} {o o' : D → D → M D}
theorem tOp_of (hi : Im2 X.K X.mg o r) : ∀ σ H Q, rd X.K X.mg (RD X.K X.mg) Wx (dBin o f g) σ H Q → tOp r (rd X.K X.mg (RD X.K X.mg) Wx f) (rd X.K X.mg (RD X.K X.mg) Wx g) σ H Q :=
  fun σ H Q ⟨w, ρ, s, env, run⟩ => ⟨w, ρ, s, env, run.bind fun w1 x v1 H1 s1 le1 r1 run1 => ⟨w1, ρ, s1, env.mono le1, run1.bind fun w2 y v2 H2 s2 le2 r2 run2 => hi (r1.mono le2) r2 run2⟩⟩
theorem pd_op {op : Operator} (ho : OpR X (binaryOp op) r) (hi : Im2 X.K X.mg o r) (ha : PD X Wx a f) (hb : PD X Wx b g) : PD X Wx (.BinOp a op b pos) (dBin o f g) := pe_mono (pe_op ho ha hb) (tOp_of hi)
theorem pd_un {op : UnaryOp} {r : V → Hp → VK → Prop} {o : D → M D} (ho : UnR X (unaryOp op) r) (hi : Im1 X.K X.mg o r) (ha : PD X Wx a f) : PD X Wx (.UnaryOp op a pos) (dUn o f) :=
  pe_mono (pe_un ho ha) fun σ H Q ⟨w, ρ, s, env, run⟩ => ⟨w, ρ, s, env, run.bind fun w1 x v1 H1 s1 le1 r1 run1 => hi r1 run1⟩
theorem pd_cmp {op : CmpOp} (ho : OpR X (compareOp op) r) (hi : Im2 X.K X.mg o r) (ha : PD X Wx a f) (hb : PD X Wx b g) (hm : behindInMarks op b = false) : PD X Wx (.Compare a [op] [b] pos) (dBin o f g) := pe_mono (pe_cmpR ho ha hb hm) (tOp_of hi)
/-- a value that must be a truth value -/
def isB : D → M Bool
  | .bl b => ret b
  | _ => stuck
def dTst (f : En → M D) : En → M Bool := fun ρ => bnd (f ρ) isB
theorem isB_of {w : W} {s : S} {σ : L2.St} {H : Hp} {x : D} {v : V} {Q : Bool → Hp → Prop} (r : RD K mg w x v) (run : Run K mg RB Wx (isB x) w s σ H Q) : ∃ k, v = .bl k ∧ Q k H := by
  cases r <;> first
    | exact ⟨_, rfl, Run.here run rfl⟩
    | exact run.no
theorem tTest_of {t : TE} (h : ∀ σ H Q, rd X.K X.mg (RD X.K X.mg) Wx f σ H Q → t σ H Q) : ∀ σ H Q, rd X.K X.mg RB Wx (dTst f) σ H Q → tTest t σ H Q :=
  fun σ H Q ⟨w, ρ, s, env, run⟩ => h σ H _ ⟨w, ρ, s, env, run.bind fun w1 x v1 H1 s1 le1 r1 run1 => isB_of r1 run1⟩
theorem pdt_cmp {op : CmpOp} (ho : OpR X (compareOp op) r) (hi : Im2 X.K X.mg o r) (ha : PD X Wx a f) (hb : PD X Wx b g) (hm : behindInMarks op b = false) : PDT X Wx (.Compare a [op] [b] pos) (dTst (dBin o f g)) := pt_mono (pt_cmpR ho ha hb hm) (tTest_of (tOp_of hi))
/-- a op b op' c -/
def dChn (o o' : D → D → M D) (f g k : En → M D) : En → M D := fun ρ => bnd (f ρ) fun x => bnd (g ρ) fun y => bnd (o x y) fun z => bnd (isB z) fun t => if t = true then bnd (k ρ) fun u => o' y u else ret (.bl false)
theorem tChain_of (hi : Im2 X.K X.mg o r) (hi' : Im2 X.K X.mg o' r') : ∀ σ H Q, rd X.K X.mg (RD X.K X.mg) Wx (dChn o o' f g k) σ H Q → tChain r r' (rd X.K X.mg (RD X.K X.mg) Wx f) (rd X.K X.mg (RD X.K X.mg) Wx g) (rd X.K X.mg (RD X.K X.mg) Wx k) σ H Q :=
  fun σ H Q ⟨w, ρ, s, env, run⟩ => ⟨w, ρ, s, env, run.bind fun w1 x v1 H1 s1 le1 r1 run1 => ⟨w1, ρ, s1, env.mono le1, run1.bind fun w2 y v2 H2 s2 le2 r2 run2 =>
    hi (r1.mono le2) r2 (run2.bind fun w3 z v3 H3 s3 le3 r3 run3 => by
      cases z <;> first | exact run3.no | skip
      cases r3
      refine ⟨_, rfl, ?_⟩
      rename_i t
      cases t with
      | false => exact Run.here run3 (.bl false)
      | true =>
        have run3 : Run X.K X.mg (RD X.K X.mg) Wx (bnd (k ρ) fun u => o' y u) w3 s3 σ H3 Q := run3
        exact ⟨w3, ρ, s3, env.mono ((le1.trans le2).trans le3), run3.bind fun w4 u v4 H4 s4 le4 r4 run4 => hi' ((r2.mono le3).mono le4) r4 run4⟩)⟩⟩
theorem pd_chn {op op' : CmpOp} (ho : OpR X (compareOp op) r) (hi : Im2 X.K X.mg o r) (ho' : OpR X (compareOp op') r') (hi' : Im2 X.K X.mg o' r') (ha : PD X Wx a f) (hb : PD X Wx b g) (hc : PD X Wx c k)
    (hm : lastMarks [op, op'] [b, c] = false := by with_unfolding_all rfl) : PD X Wx (.Compare a [op, op'] [b, c] pos) (dChn o o' f g k) := pe_mono (pe_chain ho ho' ha hb hc hm) (tChain_of hi hi')
theorem pdt_chn {op op' : CmpOp} (ho : OpR X (compareOp op) r) (hi : Im2 X.K X.mg o r) (ho' : OpR X (compareOp op') r') (hi' : Im2 X.K X.mg o' r') (ha : PD X Wx a f) (hb : PD X Wx b g) (hc : PD X Wx c k)
    (hm : lastMarks [op, op'] [b, c] = false := by with_unfolding_all rfl) : PDT X Wx (.Compare a [op, op'] [b, c] pos) (dTst (dChn o o' f g k)) := pt_mono (pt_chain ho ho' ha hb hc hm) (tTest_of (tChain_of hi hi'))
end

/-! ### and, or, not -/
section
variable {X : Cx} {Wx : XK} {a b c : Expr} {rest : List Expr} {f g : En → M D} {t u : En → M Bool} {pos : Pos}
/-- a test of what has the form of no test of its own -/
theorem pdt_val (h : PD X Wx a f) (he : ∀ whole, isTrue a X.env whole = (do let v ← whole; standAt a.pos; holding [v] (truthy v)) := by intro _; rfl) : PDT X Wx a (dTst f) :=
  pt_mono (pt_val h he) fun σ H Q ⟨w, ρ, s, env, run⟩ => ⟨w, ρ, s, env, run.bind fun w1 x v1 H1 s1 le1 r1 run1 => isB_of r1 run1⟩
def tAndD (t u : En → M Bool) : En → M Bool := fun ρ => bnd (t ρ) fun c => if c = true then u ρ else ret false
def tOrD (t u : En → M Bool) : En → M Bool := fun ρ => bnd (t ρ) fun c => if c = true then ret true else u ρ
def tNotD (t : En → M Bool) : En → M Bool := fun ρ => bnd (t ρ) fun c => ret (!c)
theorem pdw_and1 (ha : PDT X Wx a t) : PDW X Wx (.BoolOp .And [a] pos) t := pw_and1 ha
theorem pdw_or1 (ha : PDT X Wx a t) : PDW X Wx (.BoolOp .Or [a] pos) t := pw_or1 ha
theorem pdw_and (ha : PDT X Wx a t) (hb : PDW X Wx (.BoolOp .And (b :: rest) pos) u) : PDW X Wx (.BoolOp .And (a :: b :: rest) pos) (tAndD t u) :=
  pw_mono (pw_and ha hb) fun σ H Q ⟨w, ρ, s, env, run⟩ => ⟨w, ρ, s, env, run.bind fun w1 x v1 H1 s1 le1 r1 run1 => by
    subst r1
    cases x with
    | true => exact ⟨w1, ρ, s1, env.mono le1, run1⟩
    | false => exact Run.here run1 rfl⟩
theorem pdw_or (ha : PDT X Wx a t) (hb : PDW X Wx (.BoolOp .Or (b :: rest) pos) u) : PDW X Wx (.BoolOp .Or (a :: b :: rest) pos) (tOrD t u) :=
  pw_mono (pw_or ha hb) fun σ H Q ⟨w, ρ, s, env, run⟩ => ⟨w, ρ, s, env, run.bind fun w1 x v1 H1 s1 le1 r1 run1 => by
    subst r1
    cases x with
    | true => exact Run.here run1 rfl
    | false => exact ⟨w1, ρ, s1, env.mono le1, run1⟩⟩
theorem pdt_w (h : PDW X Wx a t) : PDT X Wx a t := h.pt
theorem pdt_not (ha : PDT X Wx a t) : PDT X Wx (.UnaryOp .Not a pos) (tNotD t) :=
  pt_mono (pt_not ha) fun σ H Q ⟨w, ρ, s, env, run⟩ => ⟨w, ρ, s, env, run.bind fun w1 x v1 H1 s1 le1 r1 run1 => by
    subst r1
    exact Run.here run1 rfl⟩
/-- as values -/
def dAnd (f g : En → M D) : En → M D := fun ρ => bnd (f ρ) fun x => bnd (isB x) fun c => if c = true then g ρ else ret (.bl false)
def dOr (f g : En → M D) : En → M D := fun ρ => bnd (f ρ) fun x => bnd (isB x) fun c => if c = true then ret (.bl true) else g ρ
def dNot (f : En → M D) : En → M D := fun ρ => bnd (f ρ) fun x => bnd (isB x) fun c => ret (.bl (!c))
theorem isB_bind {β : Type} {R : W → D → β → Prop} {w : W} {s : S} {σ : L2.St} {H : Hp} {x : D} {v : V} {gg : Bool → M D} {Q : β → Hp → Prop} (r : RD K mg w x v) (run : Run K mg R Wx (bnd (isB x) gg) w s σ H Q) : ∃ k, v = .bl k ∧ Run K mg R Wx (gg k) w s σ H Q := by
  cases r <;> first
    | exact ⟨_, rfl, run⟩
    | exact run.no
theorem pd_one {op} (h : PD X Wx a f) : PD X Wx (.BoolOp op [a] pos) f := pe_one h
theorem pd_and (ha : PD X Wx a f) (hb : PD X Wx (.BoolOp .And (b :: rest) pos) g) : PD X Wx (.BoolOp .And (a :: b :: rest) pos) (dAnd f g) :=
  pe_mono (pe_and ha hb) fun σ H Q ⟨w, ρ, s, env, run⟩ => ⟨w, ρ, s, env, run.bind fun w1 x v1 H1 s1 le1 r1 run1 => by
    obtain ⟨k, e, run2⟩ := isB_bind r1 run1
    refine ⟨k, e, ?_⟩
    cases k with
    | true => exact ⟨w1, ρ, s1, env.mono le1, run2⟩
    | false => exact Run.here run2 (.bl false)⟩
theorem pd_or (ha : PD X Wx a f) (hb : PD X Wx (.BoolOp .Or (b :: rest) pos) g) : PD X Wx (.BoolOp .Or (a :: b :: rest) pos) (dOr f g) :=
  pe_mono (pe_or ha hb) fun σ H Q ⟨w, ρ, s, env, run⟩ => ⟨w, ρ, s, env, run.bind fun w1 x v1 H1 s1 le1 r1 run1 => by
    obtain ⟨k, e, run2⟩ := isB_bind r1 run1
    refine ⟨k, e, ?_⟩
    cases k with
    | true => exact Run.here run2 (.bl true)
    | false => exact ⟨w1, ρ, s1, env.mono le1, run2⟩⟩
theorem pd_not (ha : PD X Wx a f) : PD X Wx (.UnaryOp .Not a pos) (dNot f) :=
  pe_mono (pe_not ha) fun σ H Q ⟨w, ρ, s, env, run⟩ => ⟨w, ρ, s, env, run.bind fun w1 x v1 H1 s1 le1 r1 run1 => by
    obtain ⟨k, e, run2⟩ := isB_bind r1 run1
    exact ⟨k, e, Run.here run2 (.bl _)⟩⟩
def dIf (t : En → M Bool) (f g : En → M D) : En → M D := fun ρ => bnd (t ρ) fun c => if c = true then f ρ else g ρ
theorem pd_if (hc : PDT X Wx c t) (ha : PD X Wx a f) (hb : PD X Wx b g) : PD X Wx (.IfExp c a b pos) (dIf t f g) :=
  pe_mono (pe_ifExp hc ha hb) fun σ H Q ⟨w, ρ, s, env, run⟩ => ⟨w, ρ, s, env, run.bind fun w1 x v1 H1 s1 le1 r1 run1 => by
    subst r1
    cases x with
    | true => exact ⟨w1, ρ, s1, env.mono le1, run1⟩
    | false => exact ⟨w1, ρ, s1, env.mono le1, run1⟩⟩
end

/-! ### rows of expressions, displays -/
def dNil : En → M (List D) := fun _ => ret []
def dCons (f : En → M D) (g : En → M (List D)) : En → M (List D) := fun ρ => bnd (f ρ) fun x => bnd (g ρ) fun xs => ret (x :: xs)
def dTup (f : En → M (List D)) : En → M D := fun ρ => bnd (f ρ) fun xs => if xs.length ≤ CAP then ret (.tup xs) else stuck
def dLst (f : En → M (List D)) : En → M D := fun ρ => bnd (f ρ) fun xs => if xs.length ≤ CAP then ret (.lst xs) else stuck
/-- a new object in the store -/
def mk (d : D) : M D := fun s => some (.ok (.ref s.objs.length), ⟨s.bases, s.objs ++ [d]⟩)
def dLstM (f : En → M (List D)) : En → M D := fun ρ => bnd (f ρ) fun xs => if xs.length ≤ CAP then mk (.lst xs) else stuck
section
variable {X : Cx} {Wx : XK} {e : Expr} {es : List Expr} {f : En → M D} {g : En → M (List D)} {pos : Pos}
theorem pda_nil : PDA X Wx [] dNil := pa_mono pa_nil fun σ H Q ⟨w, ρ, s, env, run⟩ => Run.here run .nil
theorem pda_cons (ha : PD X Wx e f) (hr : PDA X Wx es g) (hs : starEach (e :: es) X.env = (false, eval e X.env) :: starEach es X.env := by rfl) : PDA X Wx (e :: es) (dCons f g) :=
  pa_mono (pa_cons ha hr hs) fun σ H Q ⟨w, ρ, s, env, run⟩ => ⟨w, ρ, s, env, run.bind fun w1 x v1 H1 s1 le1 r1 run1 => ⟨w1, ρ, s1, env.mono le1, run1.bind fun w2 y v2 H2 s2 le2 r2 run2 => Run.here run2 (.cons (r1.mono le2) r2)⟩⟩
theorem pd_tup {x1} (h : PDA X Wx es g) : PD X Wx (.Tuple es x1 pos) (dTup g) :=
  pe_mono (pe_tup h) fun σ H Q ⟨w, ρ, s, env, run⟩ => ⟨w, ρ, s, env, run.bind fun w1 x v1 H1 s1 le1 r1 run1 => by
    split at run1
    · next hz =>
      refine ⟨cap_line (by rw [← r1.length]; exact hz), fun p hp => run1.froz hp fun w' le hF => .tup hF (r1.mono le)⟩
    · exact run1.no⟩
theorem pd_lst (h : PDA X Wx es g) : PD X Wx (.List es pos) (dLst g) :=
  pe_mono (pe_lst h) fun σ H Q ⟨w, ρ, s, env, run⟩ => ⟨w, ρ, s, env, run.bind fun w1 x v1 H1 s1 le1 r1 run1 => by
    split at run1
    · next hz =>
      refine ⟨cap_line (by rw [← r1.length]; exact hz), fun p hp => run1.froz hp fun w' le hF => .lst hF (r1.mono le)⟩
    · exact run1.no⟩
theorem Run.mk {w : W} {s : S} {σ : L2.St} {H : Hp} {Q : VK} {d : D} {p : Addr} {o : HO} (h : Run K mg (RD K mg) Wx (mk d) w s σ H Q) (hp : H p = none) (r : RO K mg w d o) (hlk : isLck d = false := by rfl) : Q (.ref p) (upd H p o) := by
  obtain ⟨st, r', s', e, q⟩ := h
  cases e
  obtain ⟨st2, le⟩ := st.made hp r hlk
  exact q _ _ _ le (.ref (by rw [st.len]; simp)) st2
theorem pd_lstM (h : PDA X Wx es g) : PD X Wx (.List es pos) (dLstM g) :=
  pe_mono (pe_lst h) fun σ H Q ⟨w, ρ, s, env, run⟩ => ⟨w, ρ, s, env, run.bind fun w1 x v1 H1 s1 le1 r1 run1 => by
    split at run1
    · next hz => exact ⟨cap_line (by rw [← r1.length]; exact hz), fun p hp => run1.mk hp (o := .lst v1) r1⟩
    · exact run1.no⟩
end
end DS
/-! DS2: operators on data -/
namespace DS
open PySem L2 PySem.Spec PyProof.Rows
variable {K : PySem.W.Frag} {mg : Str → Option Value}

mutual
/-- the plain data of the library that it is -/
def toPy : D → Option PyData
  | .non => some .none
  | .bl b => some (.bool b)
  | .int i => some (.int i)
  | .str x => some (.str x)
  | .tup xs => (toPyL xs).map .tuple
  | .gtp xs => (toPyL xs).map .tuple
  | .lst xs => (toPyL xs).map .list
  | .scr xs => (toPyL xs).map .list
  | _ => none
def toPyL : List D → Option (List PyData)
  | [] => some []
  | x :: xs => match toPy x, toPyL xs with
    | some a, some b => some (a :: b)
    | _, _ => none
end
mutual
theorem RD.dp {w : W} {H : Hp} (ex : Same w.F H) : ∀ {d : D} {v : V} {p : PyData}, RD K mg w d v → toPy d = some p → Dp K H v p
  | _, _, _, .non, e => by rw [toPy] at e; cases e; exact .non
  | _, _, _, .bl b, e => by rw [toPy] at e; cases e; exact .bl b
  | _, _, _, .int i, e => by rw [toPy] at e; cases e; exact .int i
  | _, _, _, .str x, e => by rw [toPy] at e; cases e; exact .str x
  | _, _, _, .tup (ds := ds) q r, e => by
    rw [toPy] at e
    cases h : toPyL ds with
    | none => rw [h] at e; cases e
    | some ps => rw [h] at e; cases e; exact .tup (SqT.of (ex _ _ q)) (RL.dp ex r h)
  | _, _, _, .gtp (ds := ds) q r, e => by
    rw [toPy] at e
    cases h : toPyL ds with
    | none => rw [h] at e; cases e
    | some ps => rw [h] at e; cases e; exact .tup (same_t ex q) (RL.dp ex r h)
  | _, _, _, .lst (ds := ds) q r, e => by
    rw [toPy] at e
    cases h : toPyL ds with
    | none => rw [h] at e; cases e
    | some ps => rw [h] at e; cases e; exact .lst (SqL.of (ex _ _ q)) (RL.dp ex r h)
  | _, _, _, .scr (ds := ds) q r, e => by
    rw [toPy] at e
    cases h : toPyL ds with
    | none => rw [h] at e; cases e
    | some ps => rw [h] at e; cases e; exact .lst (ex.seq q) (RL.dp ex r h)
  | _, _, _, .dT .., e => by rw [toPy] at e <;> first | cases e | (intros; simp)
  | _, _, _, .dK .., e => by rw [toPy] at e <;> first | cases e | (intros; simp)
  | _, _, _, .lckT .., e => by rw [toPy] at e <;> first | cases e | (intros; simp)
  | _, _, _, .lckK .., e => by rw [toPy] at e <;> first | cases e | (intros; simp)
  | _, _, _, .ins .., e => by rw [toPy] at e <;> first | cases e | (intros; simp)
  | _, _, _, .ref .., e => by rw [toPy] at e <;> first | cases e | (intros; simp)
  | _, _, _, .glo .., e => by rw [toPy] at e <;> first | cases e | (intros; simp)
theorem RL.dp {w : W} {H : Hp} (ex : Same w.F H) : ∀ {ds : List D} {vs : List V} {ps : List PyData}, RL K mg w ds vs → toPyL ds = some ps → DpAll K H vs ps
  | _, _, _, .nil, e => by rw [toPyL] at e; cases e; exact .nil
  | _, _, _, .cons (d := d) (ds := ds) a b, e => by
    rw [toPyL] at e
    cases h1 : toPy d with
    | none => rw [h1] at e; cases e
    | some p =>
      cases h2 : toPyL ds with
      | none => rw [h1, h2] at e; cases e
      | some ps =>
        rw [h1, h2] at e
        cases e
        exact .cons (RD.dp ex a h1) (RL.dp ex b h2)
end

/-! ### == and != -/
def eqB (x y : D) : Option Bool := match toPy x, toPy y with
  | some a, some b => if SeqAt.shaped a = true ∧ SeqAt.shaped b = true then some (PyData.eqv a b) else none
  | _, _ => none
def oEq (x y : D) : M D := match eqB x y with
  | some b => ret (.bl b)
  | none => stuck
def oNe (x y : D) : M D := match eqB x y with
  | some b => ret (.bl (!b))
  | none => stuck
theorem eqB_of {w : W} {H : Hp} {x y : D} {vx vy : V} {b : Bool} (ex : Same w.F H) (rx : RD K mg w x vx) (ry : RD K mg w y vy) (e : eqB x y = some b) :
    ∃ d e, Dp K H vx d ∧ Dp K H vy e ∧ SeqAt.shaped d = true ∧ SeqAt.shaped e = true ∧ PyData.eqv d e = b := by
  unfold eqB at e
  cases h1 : toPy x with
  | none => rw [h1] at e; cases e
  | some a =>
    cases h2 : toPy y with
    | none => rw [h1, h2] at e; cases e
    | some c =>
      rw [h1, h2] at e
      dsimp only at e
      split at e
      · next hs =>
        cases e
        exact ⟨a, c, rx.dp ex h1, ry.dp ex h2, hs.1, hs.2, rfl⟩
      · cases e
theorem im_eq : Im2 K mg oEq (rEqD K) := fun {Wx w s σ H x y vx vy Q} rx ry run => by
  unfold oEq at run
  cases h : eqB x y with
  | none => rw [h] at run; exact run.no
  | some b =>
    rw [h] at run
    obtain ⟨d, e, h1, h2, h3, h4, h5⟩ := eqB_of run.1.ex rx ry h
    exact ⟨d, e, h1, h2, h3, h4, by rw [h5]; exact run.here (.bl b)⟩
theorem im_ne : Im2 K mg oNe (rNeD K) := fun {Wx w s σ H x y vx vy Q} rx ry run => by
  unfold oNe at run
  cases h : eqB x y with
  | none => rw [h] at run; exact run.no
  | some b =>
    rw [h] at run
    obtain ⟨d, e, h1, h2, h3, h4, h5⟩ := eqB_of run.1.ex rx ry h
    exact ⟨d, e, h1, h2, h3, h4, by rw [h5]; exact run.here (.bl (!b))⟩

theorem Run.guard {α β : Type} {R : W → α → β → Prop} {Wx : XK} {C : Prop} [Decidable C] {m : M α} {w : W} {s : S} {σ : L2.St} {H : Hp} {Q : β → Hp → Prop} (h : Run K mg R Wx (if C then m else stuck) w s σ H Q) : C ∧ Run K mg R Wx m w s σ H Q := by
  by_cases c : C
  · rw [if_pos c] at h
    exact ⟨c, h⟩
  · rw [if_neg c] at h
    exact h.no

/-! ### whole numbers -/
def oI (C : Int → Int → Prop) [∀ i j, Decidable (C i j)] (g : Int → Int → D) : D → D → M D
  | .int i, .int j => if C i j then ret (g i j) else stuck
  | _, _ => stuck
def vOf : D → V
  | .int i => .int i
  | .bl b => .bl b
  | .str x => .str x
  | _ => .non
theorem im_I {C : Int → Int → Prop} [∀ i j, Decidable (C i j)] {g : Int → Int → D} (hg : ∀ i j w, RD K mg w (g i j) (vOf (g i j))) : Im2 K mg (oI C g) (rI C fun i j => vOf (g i j)) := fun {Wx w s σ H x y vx vy Q} rx ry run => by
  cases rx <;> cases ry <;> first
    | exact run.no
    | skip
  next i j =>
    obtain ⟨h, run⟩ := Run.guard (C := C i j) run
    exact ⟨_, _, rfl, rfl, h, run.here (hg _ _ _)⟩
theorem im_I0 {g : Int → Int → D} (hg : ∀ i j w, RD K mg w (g i j) (vOf (g i j))) : Im2 K mg (oI (fun _ _ => True) g) (rI0 fun i j => vOf (g i j)) := fun {Wx w s σ H x y vx vy Q} rx ry run => by
  obtain ⟨i, j, e1, e2, _, q⟩ := im_I hg rx ry run
  exact ⟨i, j, e1, e2, q⟩
instance (i j : Int) : Decidable (CMul i j) := inferInstanceAs (Decidable (_ ∨ _))
instance (i j : Int) : Decidable (CDiv i j) := inferInstanceAs (Decidable (_ ∧ _))
instance (i j : Int) : Decidable (CPow i j) := inferInstanceAs (Decidable (_ ∧ _))
def oSub : D → D → M D := oI (fun _ _ => True) fun i j => .int (i - j)
def oFdv : D → D → M D := oI CDiv fun i j => .int (i / j)
def oMod : D → D → M D := oI (fun _ j => 0 < j) fun i j => .int (i % j)
def oPow : D → D → M D := oI CPow fun i j => .int (i ^ j.toNat)
def oLt : D → D → M D := oI (fun _ _ => True) fun i j => .bl (decide (i < j))
def oLe : D → D → M D := oI (fun _ _ => True) fun i j => .bl (decide (i ≤ j))
def oGt : D → D → M D := oI (fun _ _ => True) fun i j => .bl (decide (j < i))
def oGe : D → D → M D := oI (fun _ _ => True) fun i j => .bl (decide (j ≤ i))
theorem im_sub : Im2 K mg oSub (rI0 fun i j => .int (i - j)) := im_I0 fun i j w => .int _
theorem im_fdv : Im2 K mg oFdv (rI CDiv fun i j => .int (i / j)) := im_I fun i j w => .int _
theorem im_mod : Im2 K mg oMod (rI (fun _ j => 0 < j) fun i j => .int (i % j)) := im_I fun i j w => .int _
theorem im_pow : Im2 K mg oPow (rI CPow fun i j => .int (i ^ j.toNat)) := im_I fun i j w => .int _
theorem im_lt : Im2 K mg oLt (rI0 fun i j => .bl (decide (i < j))) := im_I0 fun i j w => .bl _
theorem im_le : Im2 K mg oLe (rI0 fun i j => .bl (decide (i ≤ j))) := im_I0 fun i j w => .bl _
theorem im_gt : Im2 K mg oGt (rI0 fun i j => .bl (decide (j < i))) := im_I0 fun i j w => .bl _
theorem im_ge : Im2 K mg oGe (rI0 fun i j => .bl (decide (j ≤ i))) := im_I0 fun i j w => .bl _
def oNeg : D → M D
  | .int i => ret (.int (-i))
  | _ => stuck
theorem im_neg : Im1 K mg oNeg (rU fun i => .int (-i)) := fun {Wx w s σ H x vx Q} rx run => by
  cases rx <;> first
    | exact ⟨_, rfl, run.here (.int _)⟩
    | exact run.no

/-! ### + and * -/
def oAdd : D → D → M D
  | .int i, .int j => ret (.int (i + j))
  | .tup a, .tup b => if a.length + b.length ≤ CAP then ret (.tup (a ++ b)) else stuck
  | .lst a, .lst b => if a.length + b.length ≤ CAP then ret (.lst (a ++ b)) else stuck
  | .str a, .str b => if a.length + b.length ≤ CAP then ret (.str (a ++ b)) else stuck
  | _, _ => stuck
def rAdd (K : PySem.W.Frag) : R2 := fun x y H Q => (((rI0 fun i j => .int (i + j)) x y H Q ∨ rCatA K x y H Q) ∨ rCat x y H Q) ∨ ∃ i j, x = .str i ∧ y = .str j ∧ i.length + j.length ≤ sizeLine ∧ Q (.str (i ++ j)) H
theorem op_addD {X : Cx} : OpR X (binaryOp .Add) (rAdd X.K) := OpR.or (OpR.or (OpR.or op_add op_catA) op_cat) op_add_str
theorem RL.nil_of {w : W} {ds : List D} (h : RL K mg w ds []) : ds = [] := by cases h; rfl
theorem RL.nil_v {w : W} {vs : List V} (h : RL K mg w [] vs) : vs = [] := by cases h; rfl
theorem im_add : Im2 K mg oAdd (rAdd K) := fun {Wx w s σ H x y vx vy Q} rx ry run => by
  cases rx <;> cases ry <;> first
    | exact run.no
    | skip
  · exact .inl (.inl (.inl ⟨_, _, rfl, rfl, run.here (.int _)⟩))
  · next a b =>
    obtain ⟨h, run⟩ := Run.guard (C := a.length + b.length ≤ CAP) run
    exact .inr ⟨_, _, rfl, rfl, cap_line h, run.here (.str _)⟩
  · next a ds vs q1 r1 b es us q2 r2 =>
    obtain ⟨hz, run⟩ := Run.guard (C := ds.length + es.length ≤ CAP) run
    have hx := run.1.ex
    refine .inl (.inl (.inr ⟨_, _, _, _, rfl, rfl, SqT.of (hx _ _ q1), SqT.of (hx _ _ q2), cap_line (by rw [← r1.length, ← r2.length]; exact hz), fun e => ?_, fun _ e => ?_, fun _ _ p hp => run.froz hp fun w' le hF => .tup hF ((r1.mono le).append (r2.mono le))⟩))
    · subst e
      have e2 := r1.nil_of
      subst e2
      exact run.here (.tup q2 r2)
    · subst e
      have e2 := r2.nil_of
      subst e2
      exact run.here (.tup q1 (by rw [List.append_nil]; exact r1))
  · next a ds vs q1 r1 b es us q2 r2 =>
    obtain ⟨hz, run⟩ := Run.guard (C := ds.length + es.length ≤ CAP) run
    have hx := run.1.ex
    exact .inl (.inr ⟨_, _, _, _, rfl, rfl, hx _ _ q1, hx _ _ q2, cap_line (by rw [← r1.length, ← r2.length]; exact hz), fun p hp => run.froz hp fun w' le hF => .lst hF ((r1.mono le).append (r2.mono le))⟩)
def repL (n : Nat) (xs : List D) : List D := (List.replicate n xs).flatten
def oMul : D → D → M D
  | .int i, .int j => if CMul i j then ret (.int (i * j)) else stuck
  | .lst a, .int k => if 0 ≤ k ∧ k < 100000 ∧ a.length * k.toNat ≤ CAP then ret (.lst (repL k.toNat a)) else stuck
  | _, _ => stuck
def rMul : R2 := fun x y H Q => (rI CMul fun i j => .int (i * j)) x y H Q ∨ rRep x y H Q
theorem op_mulD {X : Cx} : OpR X (binaryOp .Mult) rMul := OpR.or op_mul op_rep
theorem RL.repL {w : W} {ds : List D} {vs : List V} (h : RL K mg w ds vs) : ∀ n : Nat, RL K mg w (repL n ds) (List.replicate n vs).flatten
  | 0 => .nil
  | n + 1 => by
    unfold DS.repL
    rw [List.replicate_succ, List.replicate_succ, List.flatten_cons, List.flatten_cons]
    exact h.append (RL.repL h n)
theorem im_mul : Im2 K mg oMul rMul := fun {Wx w s σ H x y vx vy Q} rx ry run => by
  cases rx <;> cases ry <;> first
    | exact run.no
    | skip
  · next i j =>
    obtain ⟨h, run⟩ := Run.guard (C := CMul i j) run
    exact .inl ⟨_, _, rfl, rfl, h, run.here (.int _)⟩
  · next a ds vs q1 r1 k =>
    obtain ⟨⟨h0, h1, h2⟩, run⟩ := Run.guard (C := 0 ≤ k ∧ k < 100000 ∧ ds.length * k.toNat ≤ CAP) run
    exact .inr ⟨_, _, _, rfl, rfl, run.1.ex _ _ q1, by omega, by omega, cap_line (by rw [← r1.length]; exact h2), fun p hp => run.froz hp fun w' le hF => .lst hF ((r1.mono le).repL _)⟩

/-! ### is, in -/
def isNon : D → Bool
  | .non => true
  | _ => false
def oIs : D → D → M D
  | x, .non => ret (.bl (isNon x))
  | _, _ => stuck
def oIsNot : D → D → M D
  | x, .non => ret (.bl (!isNon x))
  | _, _ => stuck
theorem isNon_of {w : W} {x : D} {v : V} (r : RD K mg w x v) : decide (v = .non) = isNon x := by cases r <;> rfl
theorem im_is : Im2 K mg oIs (fun x y H Q => y = .non ∧ Q (.bl (decide (x = .non))) H) := fun {Wx w s σ H x y vx vy Q} rx ry run => by
  cases ry <;> first
    | exact ⟨rfl, by rw [isNon_of rx]; exact run.here (.bl _)⟩
    | exact run.no
theorem im_isNot : Im2 K mg oIsNot (fun x y H Q => y = .non ∧ Q (.bl (!decide (x = .non))) H) := fun {Wx w s σ H x y vx vy Q} rx ry run => by
  cases ry <;> first
    | exact ⟨rfl, by rw [isNon_of rx]; exact run.here (.bl _)⟩
    | exact run.no
def flt : D → Option V
  | .non => some .non
  | .bl b => some (.bl b)
  | .int i => some (.int i)
  | .str x => some (.str x)
  | _ => none
def fltL : List D → Option (List V)
  | [] => some []
  | x :: xs => match flt x, fltL xs with
    | some a, some b => some (a :: b)
    | _, _ => none
theorem flt_of {w : W} {x : D} {v u : V} (r : RD K mg w x v) (e : flt x = some u) : v = u ∧ flatV v = true := by
  cases r <;> first
    | (cases e; exact ⟨rfl, rfl⟩)
    | cases e
theorem fltL_of {w : W} : ∀ {xs : List D} {vs us : List V}, RL K mg w xs vs → fltL xs = some us → vs = us ∧ vs.all flatV = true
  | _, _, _, .nil, e => by cases e; exact ⟨rfl, rfl⟩
  | _, _, _, .cons (d := d) (ds := ds) a b, e => by
    unfold fltL at e
    cases h1 : flt d with
    | none => rw [h1] at e; cases e
    | some p =>
      cases h2 : fltL ds with
      | none => rw [h1, h2] at e; cases e
      | some ps =>
        rw [h1, h2] at e
        cases e
        obtain ⟨e1, f1⟩ := flt_of a h1
        obtain ⟨e2, f2⟩ := fltL_of b h2
        exact ⟨by rw [e1, e2], by rw [List.all_cons, f1, f2]; rfl⟩
def inB (x : D) (ys : List D) : Option Bool := match flt x, fltL ys with
  | some a, some b => some (inV a b)
  | _, _ => none
def oIn (neg : Bool) : D → D → M D
  | x, .tup ys => match inB x ys with
    | some b => ret (.bl (if neg then !b else b))
    | none => stuck
  | x, .lst ys => match inB x ys with
    | some b => ret (.bl (if neg then !b else b))
    | none => stuck
  | x, .gtp ys => match inB x ys with
    | some b => ret (.bl (if neg then !b else b))
    | none => stuck
  | _, _ => stuck
theorem inB_of {w : W} {x : D} {ys : List D} {vx : V} {vs : List V} {b : Bool} (rx : RD K mg w x vx) (ry : RL K mg w ys vs) (e : inB x ys = some b) : flatV vx = true ∧ vs.all flatV = true ∧ inV vx vs = b := by
  unfold inB at e
  cases h1 : flt x with
  | none => rw [h1] at e; cases e
  | some a =>
    cases h2 : fltL ys with
    | none => rw [h1, h2] at e; cases e
    | some c =>
      rw [h1, h2] at e
      cases e
      obtain ⟨e1, f1⟩ := flt_of rx h1
      obtain ⟨e2, f2⟩ := fltL_of ry h2
      exact ⟨f1, f2, by rw [e1, e2]⟩
theorem im_in (neg : Bool) : Im2 K mg (oIn neg) (rIn K neg) := fun {Wx w s σ H x y vx vy Q} rx ry run => by
  cases ry <;> first
    | exact run.no
    | skip
  · next a ys vs q r =>
    cases h : inB x ys with
    | none =>
      have run : Run K mg (RD K mg) Wx (match inB x ys with | some b => ret (.bl (if neg then !b else b)) | none => stuck) w s σ H Q := run
      rw [h] at run
      exact run.no
    | some b =>
      have run : Run K mg (RD K mg) Wx (match inB x ys with | some b => ret (.bl (if neg then !b else b)) | none => stuck) w s σ H Q := run
      rw [h] at run
      obtain ⟨f1, f2, e⟩ := inB_of rx r h
      exact ⟨_, _, rfl, .inr (SqT.of (run.1.ex _ _ q)), f1, f2, by rw [e]; exact run.here (.bl _)⟩
  · next a ys vs q r =>
    cases h : inB x ys with
    | none =>
      have run : Run K mg (RD K mg) Wx (match inB x ys with | some b => ret (.bl (if neg then !b else b)) | none => stuck) w s σ H Q := run
      rw [h] at run
      exact run.no
    | some b =>
      have run : Run K mg (RD K mg) Wx (match inB x ys with | some b => ret (.bl (if neg then !b else b)) | none => stuck) w s σ H Q := run
      rw [h] at run
      obtain ⟨f1, f2, e⟩ := inB_of rx r h
      exact ⟨_, _, rfl, .inr (same_t run.1.ex q), f1, f2, by rw [e]; exact run.here (.bl _)⟩
  · next a ys vs q r =>
    cases h : inB x ys with
    | none =>
      have run : Run K mg (RD K mg) Wx (match inB x ys with | some b => ret (.bl (if neg then !b else b)) | none => stuck) w s σ H Q := run
      rw [h] at run
      exact run.no
    | some b =>
      have run : Run K mg (RD K mg) Wx (match inB x ys with | some b => ret (.bl (if neg then !b else b)) | none => stuck) w s σ H Q := run
      rw [h] at run
      obtain ⟨f1, f2, e⟩ := inB_of rx r h
      exact ⟨_, _, rfl, .inl (SqL.of (run.1.ex _ _ q)), f1, f2, by rw [e]; exact run.here (.bl _)⟩
end DS
/-! DS3: indices, slices, built-ins by value, fields -/
namespace DS
open PySem L2 PySem.Spec PyProof.Rows
variable {K : PySem.W.Frag} {mg : Str → Option Value}

/-! ### the store read -/
def look (a : Nat) : M D := fun s => match s.objs[a]? with
  | some d => some (.ok d, s)
  | none => none
theorem Run.look {α β : Type} {R : W → α → β → Prop} {Wx : XK} {w : W} {s : S} {σ : L2.St} {H : Hp} {Q : β → Hp → Prop} {a : Nat} {p : Addr} {g : D → M α} (r : w.α[a]? = some p) (run : Run K mg R Wx (bnd (DS.look a) g) w s σ H Q) :
    ∃ d o, s.objs[a]? = some d ∧ H p = some o ∧ RO K mg w d o ∧ Run K mg R Wx (g d) w s σ H Q := by
  have hl : a < s.objs.length := by rw [run.1.len]; exact (List.getElem?_eq_some_iff.mp r).1
  have e := List.getElem?_eq_getElem hl
  obtain ⟨o, h1, h2⟩ := run.1.obj a _ p e r
  refine ⟨_, o, e, h1, h2, run.1, ?_⟩
  obtain ⟨_, r', s', e2, q⟩ := run
  refine ⟨r', s', ?_, q⟩
  have e3 : DS.look a s = some (.ok s.objs[a], s) := by unfold DS.look; rw [e]
  unfold bnd at e2
  rw [e3] at e2
  exact e2
theorem RO.lst_of {w : W} {ds : List D} {o : HO} (r : RO K mg w (.lst ds) o) : ∃ vs, o = .lst vs ∧ RL K mg w ds vs := by
  cases o <;> first
    | exact ⟨_, rfl, r⟩
    | exact r.elim
theorem RO.ins_of {w : W} {c : Str} {ns : List Str} {ds : List D} {o : HO} (r : RO K mg w (.ins c ns ds) o) : ∃ C dx fs, o = .ins C dx fs ∧ mg c = some (.ref C) ∧ fs.map (·.1) = ns ∧ RL K mg w ds (fs.map (·.2)) := by
  cases o <;> first
    | exact ⟨_, _, _, rfl, r.1, r.2.1, r.2.2⟩
    | exact r.elim
theorem RO.dT_of {w : W} {ks : List (List Key)} {ds : List D} {o : HO} (r : RO K mg w (.dT ks ds) o) : ∃ kvs, o = .dT kvs ∧ kvs.map (·.1) = ks ∧ RL K mg w ds (kvs.map (·.2)) := by
  cases o <;> first
    | exact ⟨_, rfl, r.1, r.2⟩
    | exact r.elim
theorem RO.dK_of {w : W} {ks : List Key} {ds : List D} {o : HO} (r : RO K mg w (.dK ks ds) o) : ∃ kvs, o = .dK kvs ∧ kvs.map (·.1) = ks ∧ RL K mg w ds (kvs.map (·.2)) := by
  cases o <;> first
    | exact ⟨_, rfl, r.1, r.2⟩
    | exact r.elim

/-! ### x[i] -/
def ofO {α : Type} : Option α → M α
  | some a => ret a
  | none => stuck
def oIx : D → D → M D
  | .tup ds, .int i => ofO (atI ds i)
  | .gtp ds, .int i => ofO (atI ds i)
  | .lst ds, .int i => ofO (atI ds i)
  | .scr ds, .int i => ofO (atI ds i)
  | .ref a, .int i => bnd (look a) fun d => match d with
    | .lst ds => ofO (atI ds i)
    | _ => stuck
  | _, _ => stuck
theorem Run.ofO {α β : Type} {R : W → α → β → Prop} {Wx : XK} {w : W} {s : S} {σ : L2.St} {H : Hp} {Q : β → Hp → Prop} {o : Option α} (run : Run K mg R Wx (DS.ofO o) w s σ H Q) : ∃ a, o = some a ∧ Run K mg R Wx (ret a) w s σ H Q := by
  cases o with
  | none => exact run.no
  | some a => exact ⟨a, rfl, run⟩
theorem RL.atI {w : W} {ds : List D} {vs : List V} {i : Int} {d : D} (r : RL K mg w ds vs) (e : L2.atI ds i = some d) : ∃ v, L2.atI vs i = some v ∧ RD K mg w d v := by
  unfold L2.atI at e ⊢
  rw [r.length] at e
  cases h : ixN vs.length i with
  | none => rw [h] at e; cases e
  | some j =>
    rw [h] at e
    exact r.get e
def rIx (K : PySem.W.Frag) : R2 := fun x y H Q => rIxL K x y H Q ∨ rIxT K x y H Q
theorem ix_D {X : Cx} : IxR X (rIx X.K) := IxR.or ix_list ix_tup
theorem im_ix : Im2 K mg oIx (rIx K) := fun {Wx w s σ H x y vx vy Q} rx ry run => by
  cases rx <;> cases ry <;> first
    | exact run.no
    | skip
  · next a ds vs q r i =>
    obtain ⟨d, e, run⟩ := Run.ofO (o := atI ds i) run
    obtain ⟨v, e2, rv⟩ := r.atI e
    exact .inr ⟨_, _, _, _, rfl, rfl, SqT.of (run.1.ex _ _ q), e2, run.here rv⟩
  · next a ds vs q r i =>
    obtain ⟨d, e, run⟩ := Run.ofO (o := atI ds i) run
    obtain ⟨v, e2, rv⟩ := r.atI e
    exact .inr ⟨_, _, _, _, rfl, rfl, same_t run.1.ex q, e2, run.here rv⟩
  · next a ds vs q r i =>
    obtain ⟨d, e, run⟩ := Run.ofO (o := atI ds i) run
    obtain ⟨v, e2, rv⟩ := r.atI e
    exact .inl ⟨_, _, _, _, rfl, rfl, SqL.of (run.1.ex _ _ q), e2, run.here rv⟩
  · next a ds vs q r i =>
    obtain ⟨d, e, run⟩ := Run.ofO (o := atI ds i) run
    obtain ⟨v, e2, rv⟩ := r.atI e
    exact .inl ⟨_, _, _, _, rfl, rfl, run.1.ex.seq q, e2, run.here rv⟩
  · next a p q i =>
    obtain ⟨d, o, e1, e2, r, run⟩ := Run.look q run
    cases d <;> first
      | exact run.no
      | skip
    next ds =>
      obtain ⟨vs, rfl, r⟩ := r.lst_of
      obtain ⟨d, e, run⟩ := Run.ofO (o := atI ds i) run
      obtain ⟨v, e3, rv⟩ := r.atI e
      exact .inl ⟨_, _, _, _, rfl, rfl, SqL.of e2, e3, run.here rv⟩
section
variable {X : Cx} {Wx : XK} {a b : Expr} {f g : En → M D} {pos : Pos}
theorem pd_ix (ha : PD X Wx a f) (hb : PD X Wx b g) (hs : PlainIx b := by exact fun _ _ => rfl) : PD X Wx (.Subscript a b pos) (dBin oIx f g) := pe_mono (pe_ix ix_D ha hb hs) (tOp_of im_ix)
end

/-! ### x[i:j] -/
def cutD (xs : List D) (lo hi : Option Int) : List D := (xs.drop (HT.sIx xs.length 0 lo)).take (HT.sIx xs.length xs.length hi - HT.sIx xs.length 0 lo)
theorem RL.cutD {w : W} {ds : List D} {vs : List V} (r : RL K mg w ds vs) (lo hi : Option Int) : RL K mg w (DS.cutD ds lo hi) (cutV vs lo hi) := by
  unfold DS.cutD cutV
  rw [r.length]
  exact (r.drop _).take _
def isI : D → M (Option Int)
  | .int i => ret (some i)
  | _ => stuck
def dPart (f : En → M D) : En → M (Option Int) := fun ρ => bnd (f ρ) isI
def dNoPart : En → M (Option Int) := fun _ => ret none
abbrev RO2 : W → Option Int → Option Int → Prop := fun _ a b => a = b
abbrev PDO (X : Cx) (Wx : XK) (e : Option Expr) (f : En → M (Option Int)) : Prop := PO X e (rd X.K X.mg RO2 Wx f)
theorem po_mono {X : Cx} {e : Option Expr} {t t' : TO} (h : PO X e t) (i : ∀ σ H Q, t' σ H Q → t σ H Q) : PO X e t' := ⟨fun pins s σ H Q I q => h.run pins s σ H Q I (i σ H Q q)⟩
def oSl (x : D) (lo hi : Option Int) : M D := match x with
  | .tup ds => ret (.tup (cutD ds lo hi))
  | .lst ds => ret (.lst (cutD ds lo hi))
  | .scr ds => ret (.lst (cutD ds lo hi))
  | .ref a => bnd (look a) fun d => match d with
    | .lst ds => ret (.lst (cutD ds lo hi))
    | _ => stuck
  | _ => stuck
def dSl (f : En → M D) (l h : En → M (Option Int)) : En → M D := fun ρ => bnd (f ρ) fun x => bnd (l ρ) fun lo => bnd (h ρ) fun hi => oSl x lo hi
def rSl (K : PySem.W.Frag) : V → Option Int → Option Int → Hp → VK → Prop := fun x lo hi H Q => rSlA K x lo hi H Q ∨ rSlL K x lo hi H Q
theorem sl_D {X : Cx} : SlR X (rSl X.K) := SlR.or sl_tupA sl_list
theorem im_sl {Wx : XK} {w : W} {s : S} {σ : L2.St} {H : Hp} {x : D} {vx : V} {lo hi : Option Int} {Q : VK} (rx : RD K mg w x vx) (run : Run K mg (RD K mg) Wx (oSl x lo hi) w s σ H Q) : rSl K vx lo hi H Q := by
  cases rx <;> first
    | exact run.no
    | skip
  · next a ds vs q r =>
    refine .inl ⟨_, _, rfl, SqT.of (run.1.ex _ _ q), fun ⟨e1, e2⟩ => ?_, fun _ p hp => run.froz hp fun w' le hF => .tup hF ((r.mono le).cutD _ _)⟩
    refine run.here (.tup q ?_)
    have e : cutD ds lo hi = ds := by
      unfold cutD
      rw [r.length, e1, e2, ← r.length]
      simp
    rw [e]
    exact r
  · next a ds vs q r => exact .inr ⟨_, _, rfl, SqL.of (run.1.ex _ _ q), fun p hp => run.froz hp fun w' le hF => .lst hF ((r.mono le).cutD _ _)⟩
  · next a ds vs q r => exact .inr ⟨_, _, rfl, run.1.ex.seq q, fun p hp => run.froz hp fun w' le hF => .lst hF ((r.mono le).cutD _ _)⟩
  · next a p q =>
    obtain ⟨d, o, e1, e2, r, run⟩ := Run.look q run
    cases d <;> first
      | exact run.no
      | skip
    next ds =>
      obtain ⟨vs, rfl, r⟩ := r.lst_of
      exact .inr ⟨_, _, rfl, SqL.of e2, fun p hp => run.froz hp fun w' le hF => .lst hF ((r.mono le).cutD _ _)⟩
section
variable {X : Cx} {Wx : XK} {e : Expr} {lo hi : Option Expr} {f : En → M D} {l h : En → M (Option Int)} {pos p2 : Pos}
theorem pdo_none : PDO X Wx none dNoPart := po_mono po_none fun σ H Q ⟨w, ρ, s, env, run⟩ => Run.here run rfl
theorem pdo_some (he : PD X Wx e f) : PDO X Wx (some e) (dPart f) := po_mono (po_some he) fun σ H Q ⟨w, ρ, s, env, run⟩ => ⟨w, ρ, s, env, run.bind fun w1 x v1 H1 s1 le1 r1 run1 => by
  cases r1 <;> first
    | exact ⟨_, rfl, Run.here run1 rfl⟩
    | exact run1.no⟩
theorem pd_sl (he : PD X Wx e f) (hl : PDO X Wx lo l) (hh : PDO X Wx hi h) : PD X Wx (.Subscript e (.Slice lo hi none p2) pos) (dSl f l h) :=
  pe_mono (pe_slice sl_D he hl hh) fun σ H Q ⟨w, ρ, s, env, run⟩ => ⟨w, ρ, s, env, run.bind fun w1 x v1 H1 s1 le1 r1 run1 => ⟨w1, ρ, s1, env.mono le1, run1.bind fun w2 y v2 H2 s2 le2 r2 run2 => ⟨w2, ρ, s2, env.mono (le1.trans le2), run2.bind fun w3 z v3 H3 s3 le3 r3 run3 => by
    subst r2 r3
    exact im_sl ((r1.mono le2).mono le3) run3⟩⟩⟩
end

/-! ### built-ins called by name -/
def dCB (o : List D → M D) (f : En → M (List D)) : En → M D := fun ρ => bnd (f ρ) o
section
variable {X : Cx} {Wx : XK} {x : Str} {p pos : Pos} {e : Expr} {es : List Expr} {f : En → M (List D)} {id T : String} {r : List V → Hp → VK → Prop} {o : List D → M D}
theorem tCB_of (hi : ImL X.K X.mg o r) : ∀ σ H Q, rd X.K X.mg (RD X.K X.mg) Wx (dCB o f) σ H Q → tCB r (rd X.K X.mg (RL X.K X.mg) Wx f) σ H Q :=
  fun σ H Q ⟨w, ρ, s, env, run⟩ => ⟨w, ρ, s, env, run.bind fun w1 x v1 H1 s1 le1 r1 run1 => hi r1 run1⟩
theorem pd_callB (hc : CallR X (.builtin id) r) (hi : ImL X.K X.mg o r) (hm : X.mg x = none) (hv : bootBuiltins x = some (.builtin id)) (ha : PDA X Wx (e :: es) f) (hg : Gl X x := by rfl) (hn : x ≠ "__name__" := by decide) (hdb : (x == ("__debug__" : Str)) = false := by decide)
    (he : starEach (e :: es) X.env = (false, eval e X.env) :: starEach es X.env := by rfl) (hpl : (backTo pos (starEach es X.env)).any (·.1) = false := by rfl) : PD X Wx (.Call (.Name x p) (e :: es) [] pos) (dCB o f) :=
  pe_mono (pe_callB hc hg hm hv ha hn hdb he hpl) (tCB_of hi)
theorem pd_callTy (hc : CallR X (.type T) r) (hi : ImL X.K X.mg o r) (hm : X.mg x = none) (hv : bootBuiltins x = some (.type T)) (ha : PDA X Wx (e :: es) f) (hg : Gl X x := by rfl) (hn : x ≠ "__name__" := by decide) (hdb : (x == ("__debug__" : Str)) = false := by decide)
    (he : starEach (e :: es) X.env = (false, eval e X.env) :: starEach es X.env := by rfl) (hpl : (backTo pos (starEach es X.env)).any (·.1) = false := by rfl) : PD X Wx (.Call (.Name x p) (e :: es) [] pos) (dCB o f) :=
  pe_mono (pe_callTy hc hg hm hv ha hn hdb he hpl) (tCB_of hi)
end
/-- len -/
def oLen : List D → M D
  | [.tup ds] => ret (.int (ds.length : Int))
  | [.gtp ds] => ret (.int (ds.length : Int))
  | [.lst ds] => ret (.int (ds.length : Int))
  | [.scr ds] => ret (.int (ds.length : Int))
  | [.dT ks _] => stuck
  | [.ref a] => bnd (look a) fun d => match d with
    | .lst ds => ret (.int (ds.length : Int))
    | _ => stuck
  | _ => stuck
def rLenD (K : PySem.W.Frag) : List V → Hp → VK → Prop := fun xs H Q => ∃ p ys, xs = [.ref p] ∧ (SqL K H p ys ∨ SqT K H p ys) ∧ Q (.int ys.length) H
theorem im_len : ImL K mg oLen (rLenD K) := fun {Wx w s σ H xs vs Q} r run => by
  cases r with
  | nil => exact run.no
  | cons r1 r2 =>
    cases r2 with
    | cons _ _ => cases r1 <;> exact run.no
    | nil =>
      cases r1 <;> first
        | exact run.no
        | skip
      · next a ds vs q r => exact ⟨_, _, rfl, .inr (SqT.of (run.1.ex _ _ q)), by rw [← r.length]; exact run.here (.int _)⟩
      · next a ds vs q r => exact ⟨_, _, rfl, .inr (same_t run.1.ex q), by rw [← r.length]; exact run.here (.int _)⟩
      · next a ds vs q r => exact ⟨_, _, rfl, .inl (SqL.of (run.1.ex _ _ q)), by rw [← r.length]; exact run.here (.int _)⟩
      · next a ds vs q r => exact ⟨_, _, rfl, .inl (run.1.ex.seq q), by rw [← r.length]; exact run.here (.int _)⟩
      · next a p q =>
        obtain ⟨d, o, e1, e2, r, run⟩ := Run.look q run
        cases d <;> first
          | exact run.no
          | skip
        next ds =>
          obtain ⟨vs, rfl, r⟩ := r.lst_of
          exact ⟨_, _, rfl, .inl (SqL.of e2), by rw [← r.length]; exact run.here (.int _)⟩
/-- tuple(x), list(x) -/
def oTuple : List D → M D
  | [.tup ds] => ret (.tup ds)
  | [.gtp ds] => ret (.gtp ds)
  | [.lst ds] => ret (.tup ds)
  | [.scr ds] => ret (.tup ds)
  | [.ref a] => bnd (look a) fun d => match d with
    | .lst ds => ret (.tup ds)
    | _ => stuck
  | _ => stuck
def rTuple (K : PySem.W.Frag) : List V → Hp → VK → Prop := fun xs H Q => ∃ p ys, xs = [.ref p] ∧ ((SqL K H p ys ∧ ∀ l, H l = none → Q (.ref l) (upd H l (.tup ys))) ∨ (SqT K H p ys ∧ Q (.ref p) H))
theorem im_tuple : ImL K mg oTuple (rTuple K) := fun {Wx w s σ H xs vs Q} r run => by
  cases r with
  | nil => exact run.no
  | cons r1 r2 =>
    cases r2 with
    | cons _ _ => cases r1 <;> exact run.no
    | nil =>
      cases r1 <;> first
        | exact run.no
        | skip
      · next a ds vs q r => exact ⟨_, _, rfl, .inr ⟨SqT.of (run.1.ex _ _ q), run.here (.tup q r)⟩⟩
      · next a ds vs q r => exact ⟨_, _, rfl, .inr ⟨same_t run.1.ex q, run.here (.gtp q r)⟩⟩
      · next a ds vs q r => exact ⟨_, _, rfl, .inl ⟨SqL.of (run.1.ex _ _ q), fun p hp => run.froz hp fun w' le hF => .tup hF (r.mono le)⟩⟩
      · next a ds vs q r => exact ⟨_, _, rfl, .inl ⟨run.1.ex.seq q, fun p hp => run.froz hp fun w' le hF => .tup hF (r.mono le)⟩⟩
      · next a p q =>
        obtain ⟨d, o, e1, e2, r, run⟩ := Run.look q run
        cases d <;> first
          | exact run.no
          | skip
        next ds =>
          obtain ⟨vs, rfl, r⟩ := r.lst_of
          exact ⟨_, _, rfl, .inl ⟨SqL.of e2, fun p hp => run.froz hp fun w' le hF => .tup hF (r.mono le)⟩⟩
def oList : List D → M D
  | [.tup ds] => ret (.lst ds)
  | [.gtp ds] => ret (.lst ds)
  | [.lst ds] => ret (.lst ds)
  | [.scr ds] => ret (.lst ds)
  | [.ref a] => bnd (look a) fun d => match d with
    | .lst ds => ret (.lst ds)
    | _ => stuck
  | _ => stuck
def rListD (K : PySem.W.Frag) : List V → Hp → VK → Prop := fun xs H Q => ∃ p ys, xs = [.ref p] ∧ (SqL K H p ys ∨ SqT K H p ys) ∧ ∀ l, H l = none → Q (.ref l) (upd H l (.lst ys))
theorem im_list : ImL K mg oList (rListD K) := fun {Wx w s σ H xs vs Q} r run => by
  cases r with
  | nil => exact run.no
  | cons r1 r2 =>
    cases r2 with
    | cons _ _ => cases r1 <;> exact run.no
    | nil =>
      cases r1 <;> first
        | exact run.no
        | skip
      · next a ds vs q r => exact ⟨_, _, rfl, .inr (SqT.of (run.1.ex _ _ q)), fun p hp => run.froz hp fun w' le hF => .lst hF (r.mono le)⟩
      · next a ds vs q r => exact ⟨_, _, rfl, .inr (same_t run.1.ex q), fun p hp => run.froz hp fun w' le hF => .lst hF (r.mono le)⟩
      · next a ds vs q r => exact ⟨_, _, rfl, .inl (SqL.of (run.1.ex _ _ q)), fun p hp => run.froz hp fun w' le hF => .lst hF (r.mono le)⟩
      · next a ds vs q r => exact ⟨_, _, rfl, .inl (run.1.ex.seq q), fun p hp => run.froz hp fun w' le hF => .lst hF (r.mono le)⟩
      · next a p q =>
        obtain ⟨d, o, e1, e2, r, run⟩ := Run.look q run
        cases d <;> first
          | exact run.no
          | skip
        next ds =>
          obtain ⟨vs, rfl, r⟩ := r.lst_of
          exact ⟨_, _, rfl, .inl (SqL.of e2), fun p hp => run.froz hp fun w' le hF => .lst hF (r.mono le)⟩
/-- all, any, sum of a list of truth values, of numbers -/
def bls : List D → Option (List Bool)
  | [] => some []
  | .bl b :: xs => (bls xs).map (b :: ·)
  | _ => none
def numsL : List D → Option (List Int)
  | [] => some []
  | .int b :: xs => (numsL xs).map (b :: ·)
  | _ => none
theorem bls_of {w : W} : ∀ {ds : List D} {vs : List V} {bs : List Bool}, RL K mg w ds vs → bls ds = some bs → vs = bs.map V.bl
  | _, _, _, .nil, e => by cases e; rfl
  | _, _, _, .cons (ds := ds) r t, e => by
    cases r <;> first
      | (cases e; done)
      | skip
    next b =>
      unfold bls at e
      cases h : bls ds with
      | none => rw [h] at e; cases e
      | some l =>
        rw [h] at e
        cases e
        rw [bls_of t h]
        rfl
theorem numsL_of {w : W} : ∀ {ds : List D} {vs : List V} {bs : List Int}, RL K mg w ds vs → numsL ds = some bs → vs = bs.map V.int
  | _, _, _, .nil, e => by cases e; rfl
  | _, _, _, .cons (ds := ds) r t, e => by
    cases r <;> first
      | (cases e; done)
      | skip
    next b =>
      unfold numsL at e
      cases h : numsL ds with
      | none => rw [h] at e; cases e
      | some l =>
        rw [h] at e
        cases e
        rw [numsL_of t h]
        rfl
def oAll : List D → M D
  | [.lst ds] => bnd (ofO (bls ds)) fun bs => ret (.bl (bs.all id))
  | _ => stuck
def oAny : List D → M D
  | [.lst ds] => bnd (ofO (bls ds)) fun bs => ret (.bl (bs.any id))
  | _ => stuck
def oSum : List D → M D
  | [.lst ds] => bnd (ofO (numsL ds)) fun bs => ret (.int bs.sum)
  | _ => stuck
theorem Run.ofO' {α β γ : Type} {R : W → α → β → Prop} {Wx : XK} {w : W} {s : S} {σ : L2.St} {H : Hp} {Q : β → Hp → Prop} {o : Option γ} {g : γ → M α} (run : Run K mg R Wx (bnd (DS.ofO o) g) w s σ H Q) : ∃ a, o = some a ∧ Run K mg R Wx (g a) w s σ H Q := by
  cases o with
  | none => exact run.no
  | some a => exact ⟨a, rfl, run⟩
theorem im_all : ImL K mg oAll (rAll K) := fun {Wx w s σ H xs vs Q} r run => by
  cases r with
  | nil => exact run.no
  | cons r1 r2 =>
    cases r2 with
    | cons _ _ => cases r1 <;> exact run.no
    | nil =>
      cases r1 <;> first
        | exact run.no
        | skip
      next a ds vs q r =>
        obtain ⟨bs, e, run⟩ := Run.ofO' (o := bls ds) run
        have e2 := bls_of r e
        subst e2
        exact ⟨_, _, rfl, SqL.of (run.1.ex _ _ q), run.here (.bl _)⟩
theorem im_any : ImL K mg oAny (rAny K) := fun {Wx w s σ H xs vs Q} r run => by
  cases r with
  | nil => exact run.no
  | cons r1 r2 =>
    cases r2 with
    | cons _ _ => cases r1 <;> exact run.no
    | nil =>
      cases r1 <;> first
        | exact run.no
        | skip
      next a ds vs q r =>
        obtain ⟨bs, e, run⟩ := Run.ofO' (o := bls ds) run
        have e2 := bls_of r e
        subst e2
        exact ⟨_, _, rfl, SqL.of (run.1.ex _ _ q), run.here (.bl _)⟩
theorem im_sum : ImL K mg oSum (rSum K) := fun {Wx w s σ H xs vs Q} r run => by
  cases r with
  | nil => exact run.no
  | cons r1 r2 =>
    cases r2 with
    | cons _ _ => cases r1 <;> exact run.no
    | nil =>
      cases r1 <;> first
        | exact run.no
        | skip
      next a ds vs q r =>
        obtain ⟨bs, e, run⟩ := Run.ofO' (o := numsL ds) run
        have e2 := numsL_of r e
        subst e2
        exact ⟨_, _, rfl, SqL.of (run.1.ex _ _ q), run.here (.int _)⟩
/-- abs, int, max, min of two -/
def oAbs : List D → M D
  | [.int i] => ret (.int (if i < 0 then -i else i))
  | _ => stuck
def oInt : List D → M D
  | [.int i] => ret (.int i)
  | _ => stuck
def oMax2 : List D → M D
  | [.int i, .int j] => ret (.int (if j > i then j else i))
  | _ => stuck
def oMin2 : List D → M D
  | [.int i, .int j] => ret (.int (if j < i then j else i))
  | _ => stuck
theorem im_abs : ImL K mg oAbs (fun xs H Q => ∃ i, xs = [.int i] ∧ Q (.int (if i < 0 then -i else i)) H) := fun {Wx w s σ H xs vs Q} r run => by
  cases r with
  | nil => exact run.no
  | cons r1 r2 =>
    cases r2 with
    | cons _ _ => cases r1 <;> exact run.no
    | nil =>
      cases r1 <;> first
        | exact run.no
        | exact ⟨_, rfl, run.here (.int _)⟩
theorem im_int : ImL K mg oInt (fun xs H Q => (∃ i, xs = [.int i] ∧ Q (.int i) H) ∨ ∃ k, xs = [.bl k] ∧ Q (.int (if k then 1 else 0)) H) := fun {Wx w s σ H xs vs Q} r run => by
  cases r with
  | nil => exact run.no
  | cons r1 r2 =>
    cases r2 with
    | cons _ _ => cases r1 <;> exact run.no
    | nil =>
      cases r1 <;> first
        | exact run.no
        | exact .inl ⟨_, rfl, run.here (.int _)⟩
theorem im_max2 : ImL K mg oMax2 (fun xs H Q => ∃ i j, xs = [.int i, .int j] ∧ Q (.int (if j > i then j else i)) H) := fun {Wx w s σ H xs vs Q} r run => by
  cases r with
  | nil => exact run.no
  | cons r1 r2 =>
    cases r2 with
    | nil => cases r1 <;> exact run.no
    | cons r2 r3 =>
      cases r3 with
      | cons _ _ => cases r1 <;> cases r2 <;> exact run.no
      | nil =>
        cases r1 <;> cases r2 <;> first
          | exact run.no
          | exact ⟨_, _, rfl, run.here (.int _)⟩
theorem im_min2 : ImL K mg oMin2 (fun xs H Q => ∃ i j, xs = [.int i, .int j] ∧ Q (.int (if j < i then j else i)) H) := fun {Wx w s σ H xs vs Q} r run => by
  cases r with
  | nil => exact run.no
  | cons r1 r2 =>
    cases r2 with
    | nil => cases r1 <;> exact run.no
    | cons r2 r3 =>
      cases r3 with
      | cons _ _ => cases r1 <;> cases r2 <;> exact run.no
      | nil =>
        cases r1 <;> cases r2 <;> first
          | exact run.no
          | exact ⟨_, _, rfl, run.here (.int _)⟩
/-- divmod -/
def oDivmod : List D → M D
  | [.int i, .int j] => if CDiv i j then ret (.tup [.int (i / j), .int (i % j)]) else stuck
  | _ => stuck
theorem im_divmod : ImL K mg oDivmod (fun xs H Q => ∃ i j, xs = [.int i, .int j] ∧ CDiv i j ∧ ∀ p, H p = none → Q (.ref p) (upd H p (.tup [.int (i / j), .int (i % j)]))) := fun {Wx w s σ H xs vs Q} r run => by
  cases r with
  | nil => exact run.no
  | cons r1 r2 =>
    cases r2 with
    | nil => cases r1 <;> exact run.no
    | cons r2 r3 =>
      cases r3 with
      | cons _ _ => cases r1 <;> cases r2 <;> exact run.no
      | nil =>
        cases r1 <;> cases r2 <;> first
          | exact run.no
          | skip
        next i j =>
          obtain ⟨h, run⟩ := Run.guard (C := CDiv i j) run
          exact ⟨_, _, rfl, h, fun p hp => run.froz hp fun w' le hF => .tup hF (.cons (.int _) (.cons (.int _) .nil))⟩
/-- isinstance(x, T), T a built-in type: what the type of x is -/
def tyD : D → Option String
  | .non => some "NoneType"
  | .bl _ => some "bool"
  | .int _ => some "int"
  | .str _ => some "str"
  | .tup _ => some "tuple"
  | .gtp _ => some "tuple"
  | .lst _ => some "list"
  | _ => none
def oIsi (T : String) : D → M D := fun x => match tyD x with
  | some t => bnd (ofO (kitB t T)) fun b => ret (.bl b)
  | none => stuck
theorem tyD_of {w : W} {s : S} {H : Hp} {x : D} {v : V} {t : String} (st : Sto K mg w s H) (r : RD K mg w x v) (e : tyD x = some t) : TyX K H v (.type t) := by
  cases r <;> first
    | (cases e; done)
    | skip
  · cases e; exact .base .non
  · cases e; exact .base (.bl _)
  · cases e; exact .base (.int _)
  · cases e; exact .base (.str _)
  · next a ds vs q r =>
    cases e
    exact .base (.tup (st.ex _ _ q))
  · next a ds vs q r =>
    cases e
    rcases same_t st.ex q with (h | ⟨o, h⟩) | ⟨o, its, n, h1, h2, _⟩
    · exact .base (.tup h)
    · exact .fTuple h
    · exact .kTuple h1 h2
  · next a ds vs q r =>
    cases e
    exact .base (.lst (st.ex _ _ q))
section
variable {X : Cx} {Wx : XK} {e : Expr} {f : En → M D} {p p2 pos : Pos} {y : Str} {T : String}
/-- isinstance(e, T) -/
theorem pd_isi (hm : X.mg "isinstance" = none) (hy : X.mg y = none) (hb : bootBuiltins y = some (.type T)) (ha : PD X Wx e f) (hg : Gl X "isinstance" := by rfl) (hgy : Gl X y := by rfl) (hny : y ≠ "__name__" := by decide) (hdy : (y == ("__debug__" : Str)) = false := by decide)
    (h1 : starEach [e, .Name y p2] X.env = (false, eval e X.env) :: starEach [.Name y p2] X.env := by rfl) (h2 : starEach [.Name y p2] X.env = (false, eval (.Name y p2) X.env) :: starEach [] X.env := by rfl)
    (hpl : (backTo pos (starEach [.Name y p2] X.env)).any (·.1) = false := by rfl) : PD X Wx (.Call (.Name "isinstance" p) [e, .Name y p2] [] pos) (dUn (oIsi T) f) :=
  pe_mono (pe_callB call_isi hg hm (by decide +kernel) (pa_cons ha (pa_cons (pe_bltn (v := .ty T) hgy hy hb rfl hny hdy) pa_nil h2) h1) (by decide) (by decide) h1 hpl)
    fun σ H Q ⟨w, ρ, s, env, run⟩ => ⟨w, ρ, s, env, run.bind fun w1 x v1 H1 s1 le1 r1 run1 => by
      unfold oIsi at run1
      split at run1
      · next t e =>
        obtain ⟨b, eb, run1⟩ := Run.ofO' run1
        exact ⟨_, _, _, _, b, rfl, .ty T, tyD_of run1.1 r1 e, kit_ty eb, run1.here (.bl _)⟩
      · exact run1.no⟩
end

/-! ### fields -/
def getF (f : Str) : List Str → List D → Option D
  | n :: ns, d :: ds => if f = n then some d else getF f ns ds
  | _, _ => none
theorem getF_of {w : W} {f : Str} : ∀ {fs : List (Str × V)} {ns : List Str} {ds : List D} {d : D}, fs.map (·.1) = ns → RL K mg w ds (fs.map (·.2)) → getF f ns ds = some d → ∃ v, fs.lookup f = some v ∧ RD K mg w d v
  | [], _, _, _, e, _, h => by subst e; cases h
  | (n, v) :: fs, _, _, _, e, r, h => by
    subst e
    cases r with
    | cons r1 r2 =>
      by_cases hf : f = n
      · subst hf
        have h : (if f = f then some _ else getF f _ _) = some _ := h
        rw [if_pos rfl] at h
        cases h
        exact ⟨v, by simp [List.lookup], r1⟩
      · have h : (if f = n then some _ else getF f _ _) = some _ := h
        rw [if_neg hf] at h
        obtain ⟨u, h1, h2⟩ := getF_of rfl r2 h
        refine ⟨u, ?_, h2⟩
        have hb : (f == n) = false := by simpa using hf
        simp only [List.lookup, hb]
        exact h1
/-- the classes that have the field -/
structure HasF (K : PySem.W.Frag) (mg : Str → Option Value) (cs : List Str) (f : Str) : Prop where
  cls : ∀ c, c ∈ cs → ∀ C, mg c = some (.ref C) → Cls K C ∧ NoAttr K C f
def oFld (cs : List Str) (f : Str) : D → M D
  | .ins c ns ds => if c ∈ cs then ofO (getF f ns ds) else stuck
  | .ref a => bnd (look a) fun d => match d with
    | .ins c ns ds => if c ∈ cs then ofO (getF f ns ds) else stuck
    | _ => stuck
  | _ => stuck
section
variable {X : Cx} {Wx : XK} {e : Expr} {g : En → M D} {pos : Pos} {f : Str} {cs : List Str}
theorem pd_fld (hf : HasF X.K X.mg cs f) (he : PD X Wx e g) (hb : attributeBase e f X.env (eval e X.env) = eval e X.env := by rfl) : PD X Wx (.Attribute e f pos) (dUn (oFld cs f) g) :=
  pe_mono (pe_fld he hb) fun σ H Q ⟨w, ρ, s, env, run⟩ => ⟨w, ρ, s, env, run.bind fun w1 x v1 H1 s1 le1 r1 run1 => by
    cases r1 <;> first
      | exact run1.no
      | skip
    · next a C dx c ns ds fs q hc en r =>
      obtain ⟨hcs, run1⟩ := Run.guard (C := c ∈ cs) run1
      obtain ⟨d, ed, run1⟩ := Run.ofO run1
      obtain ⟨v, h1, h2⟩ := getF_of en r ed
      obtain ⟨h3, h4⟩ := hf.cls c hcs C hc
      exact ⟨_, _, _, _, _, rfl, run1.1.ex _ _ q, h3, h4, h1, run1.here h2⟩
    · next a p q =>
      obtain ⟨d, o, e1, e2, r, run1⟩ := Run.look q run1
      cases d <;> first
        | exact run1.no
        | skip
      next c ns ds =>
        obtain ⟨C, dx, fs, rfl, hc, en, r⟩ := r.ins_of
        obtain ⟨hcs, run1⟩ := Run.guard (C := c ∈ cs) run1
        obtain ⟨d, ed, run1⟩ := Run.ofO run1
        obtain ⟨v, h1, h2⟩ := getF_of en r ed
        obtain ⟨h3, h4⟩ := hf.cls c hcs C hc
        exact ⟨_, _, _, _, _, rfl, e2, h3, h4, h1, run1.here h2⟩⟩
end
end DS
/-! DS4: statements, targets -/
namespace DS
open PySem L2 PySem.Spec PyProof.Rows
variable {K : PySem.W.Frag} {mg : Str → Option Value}

/-- how a statement ends -/
inductive Fl where
  | nx (ρ : En)
  | bk (ρ : En)
  | ct (ρ : En)
  | rt (d : D)
inductive FlV where
  | nx (σ : L2.St)
  | bk (σ : L2.St)
  | ct (σ : L2.St)
  | rt (v : V)
def RFl (K : PySem.W.Frag) (mg : Str → Option Value) (w : W) : Fl → FlV → Prop
  | .nx ρ, .nx σ => EnR K mg w ρ σ
  | .bk ρ, .bk σ => EnR K mg w ρ σ
  | .ct ρ, .ct σ => EnR K mg w ρ σ
  | .rt d, .rt v => RD K mg w d v
  | _, _ => False
def qD (D : Ends) : FlV → Hp → Prop
  | .nx σ, H => D.nx σ H
  | .bk σ, H => D.bk σ H
  | .ct σ, H => D.ct σ H
  | .rt v, H => D.rt v H
def rS (X : Cx) (Wx : XK) (f : En → M Fl) : TS := fun D σ H => rd X.K X.mg (RFl X.K X.mg) Wx f σ H (qD D)
abbrev PDS (X : Cx) (Wx : XK) (st : Stmt) (f : En → M Fl) : Prop := PS X st (rS X Wx f)
abbrev PDSs (X : Cx) (Wx : XK) (st : List Stmt) (f : En → M Fl) : Prop := PSs X st (rS X Wx f)
theorem ps_mono {X : Cx} {e : Stmt} {t t' : TS} (h : PS X e t) (i : ∀ D σ H, t' D σ H → t D σ H) : PS X e t' := ⟨fun pins s σ H Q I q => h.run pins s σ H Q I (i Q σ H q)⟩
theorem pss_mono {X : Cx} {e : List Stmt} {t t' : TS} (h : PSs X e t) (i : ∀ D σ H, t' D σ H → t D σ H) : PSs X e t' := ⟨fun pins s σ H Q I q => h.run pins s σ H Q I (i Q σ H q)⟩
def dNext : En → M Fl := fun ρ => ret (.nx ρ)
def dBreak : En → M Fl := fun ρ => ret (.bk ρ)
def dCont : En → M Fl := fun ρ => ret (.ct ρ)
def dRet (f : En → M D) : En → M Fl := fun ρ => bnd (f ρ) fun d => ret (.rt d)
def dRetN : En → M Fl := fun _ => ret (.rt .non)
def dExp (f : En → M D) : En → M Fl := fun ρ => bnd (f ρ) fun _ => ret (.nx ρ)
def dIfS (t : En → M Bool) (f g : En → M Fl) : En → M Fl := fun ρ => bnd (t ρ) fun c => if c = true then f ρ else g ρ
def thenS (g : En → M Fl) : Fl → M Fl
  | .nx ρ => g ρ
  | o => ret o
def dSeq (f g : En → M Fl) : En → M Fl := fun ρ => bnd (f ρ) (thenS g)
def dStuck : En → M Fl := fun _ => stuck
section
variable {X : Cx} {Wx : XK} {st : Stmt} {sts a b : List Stmt} {c e : Expr} {f g : En → M Fl} {u : En → M D} {t : En → M Bool} {pos : Pos}
theorem pds_nil : PDSs X Wx [] dNext := pss_mono pss_nil fun D σ H ⟨w, ρ, s, env, run⟩ => Run.here (b := FlV.nx σ) run env
theorem pds_cons (h1 : PDS X Wx st f) (h2 : PDSs X Wx sts g) : PDSs X Wx (st :: sts) (dSeq f g) :=
  pss_mono (pss_cons h1 h2) fun D σ H ⟨w, ρ, s, env, run⟩ => ⟨w, ρ, s, env, run.bind fun w1 x v1 H1 s1 le1 r1 run1 => by
    cases x <;> cases v1 <;> first
      | exact r1.elim
      | skip
    · exact ⟨w1, _, s1, r1, run1⟩
    · exact Run.here (b := FlV.bk _) run1 r1
    · exact Run.here (b := FlV.ct _) run1 r1
    · exact Run.here (b := FlV.rt _) run1 r1⟩
theorem pds_one (h1 : PDS X Wx st f) : PDSs X Wx [st] f :=
  pss_mono (pss_one h1) fun D σ H h => h
theorem pds_pass : PDS X Wx (.Pass pos) dNext := ps_mono ps_pass fun D σ H ⟨w, ρ, s, env, run⟩ => Run.here (b := FlV.nx σ) run env
theorem pds_break : PDS X Wx (.Break pos) dBreak := ps_mono ps_break fun D σ H ⟨w, ρ, s, env, run⟩ => Run.here (b := FlV.bk σ) run env
theorem pds_continue : PDS X Wx (.Continue pos) dCont := ps_mono ps_continue fun D σ H ⟨w, ρ, s, env, run⟩ => Run.here (b := FlV.ct σ) run env
theorem pds_ret (he : PD X Wx e u) : PDS X Wx (.Return (some e) pos) (dRet u) :=
  ps_mono (ps_ret he) fun D σ H ⟨w, ρ, s, env, run⟩ => ⟨w, ρ, s, env, run.bind fun w1 x v1 H1 s1 le1 r1 run1 => Run.here (b := FlV.rt v1) run1 r1⟩
theorem pds_retN : PDS X Wx (.Return none pos) dRetN := ps_mono ps_retN fun D σ H ⟨w, ρ, s, env, run⟩ => Run.here (b := FlV.rt .non) run .non
theorem pds_expr (he : PD X Wx e u) (hs : swapsWith e none pos.line X.env = pure false := by rfl) : PDS X Wx (.Expr e pos) (dExp u) :=
  ps_mono (ps_expr he hs) fun D σ H ⟨w, ρ, s, env, run⟩ => ⟨w, ρ, s, env, run.bind fun w1 x v1 H1 s1 le1 r1 run1 => Run.here (b := FlV.nx σ) run1 (env.mono le1)⟩
theorem pds_if (hc : PDT X Wx c t) (ha : PDSs X Wx a f) (hb : PDSs X Wx b g) : PDS X Wx (.If c a b pos) (dIfS t f g) :=
  ps_mono (ps_if hc ha hb) fun D σ H ⟨w, ρ, s, env, run⟩ => ⟨w, ρ, s, env, run.bind fun w1 x v1 H1 s1 le1 r1 run1 => by
    subst r1
    cases x with
    | true => exact ⟨w1, ρ, s1, env.mono le1, run1⟩
    | false => exact ⟨w1, ρ, s1, env.mono le1, run1⟩⟩
theorem pds_stuck : PDS X Wx st dStuck := ps_mono ps_never fun D σ H ⟨w, ρ, s, env, run⟩ => run.no
theorem pdss_stuck : PDSs X Wx sts dStuck := pss_mono pss_never fun D σ H ⟨w, ρ, s, env, run⟩ => run.no
end

/-! ### targets -/
def RG (K : PySem.W.Frag) (mg : Str → Option Value) (ts : List Nat) (σ : L2.St) (w : W) (ρ' : En) (σ' : L2.St) : Prop := EnR K mg w ρ' σ' ∧ σ'.length = σ.length ∧ ∀ i, i ∉ ts → σ'[i]? = σ[i]?
def rG (X : Cx) (Wx : XK) (ts : List Nat) (g : D → En → M En) : TG := fun v σ H Q => ∃ w ρ s d, EnR X.K X.mg w ρ σ ∧ RD X.K X.mg w d v ∧ Run X.K X.mg (RG X.K X.mg ts σ) Wx (g d ρ) w s σ H Q
def rGs (X : Cx) (Wx : XK) (ts : List Nat) (g : List D → En → M En) : TGs := fun vs σ H Q => ∃ w ρ s ds, EnR X.K X.mg w ρ σ ∧ RL X.K X.mg w ds vs ∧ Run X.K X.mg (RG X.K X.mg ts σ) Wx (g ds ρ) w s σ H Q
abbrev PDG (X : Cx) (Wx : XK) (tg : Expr) (ts : List Nat) (g : D → En → M En) : Prop := PG X tg (rG X Wx ts g)
abbrev PDGs (X : Cx) (Wx : XK) (tg : List Expr) (ts : List Nat) (g : List D → En → M En) : Prop := PGs X tg (rGs X Wx ts g)
theorem pg_mono {X : Cx} {e : Expr} {t t' : TG} (h : PG X e t) (i : ∀ v σ H Q, t' v σ H Q → t v σ H Q) : PG X e t' := ⟨fun pins s σ H v u Q I r q => h.run pins s σ H v u Q I r (i v σ H Q q)⟩
theorem pgs_mono {X : Cx} {e : List Expr} {t t' : TGs} (h : PGs X e t) (i : ∀ v σ H Q, t' v σ H Q → t v σ H Q) : PGs X e t' := ⟨fun pins s σ H v u Q I r q => h.run pins s σ H v u Q I r (i v σ H Q q)⟩
theorem pg_or {X : Cx} {e : Expr} {t t' : TG} (h : PG X e t) (h' : PG X e t') : PG X e (fun v σ H Q => t v σ H Q ∨ t' v σ H Q) := ⟨fun pins s σ H v u Q I r q => q.elim (h.run pins s σ H v u Q I r) (h'.run pins s σ H v u Q I r)⟩
def gdName (i : Nat) : D → En → M En := fun d ρ => ret (ρ.set i (some d))
def gdNil : List D → En → M En
  | [], ρ => ret ρ
  | _, _ => stuck
def gdCons (g : D → En → M En) (k : List D → En → M En) : List D → En → M En
  | d :: r, ρ => bnd (g d ρ) fun ρ' => k r ρ'
  | [], _ => stuck
/-- the items of a tuple or a list -/
def oItems : D → M (List D)
  | .tup ds => ret ds
  | .gtp ds => ret ds
  | .lst ds => ret ds
  | .scr ds => ret ds
  | .ref a => bnd (look a) fun d => match d with
    | .lst ds => ret ds
    | _ => stuck
  | _ => stuck
def gdSeq (n : Nat) (k : List D → En → M En) : D → En → M En := fun d ρ => bnd (oItems d) fun ds => if ds.length = n then k ds ρ else stuck
section
variable {X : Cx} {Wx : XK} {e : Expr} {es : List Expr} {g : D → En → M En} {k : List D → En → M En} {ts us : List Nat} {pos : Pos} {n : Nat}
theorem pdg_name (i : Nat) {x : Str} (hN : X.N.Nodup) (hi : X.N[i]? = some x := by rfl) (hx : Loc X.env.scope x := by first | exact Or.inl rfl | exact Or.inr rfl)
    (hf : X.fn x = true ∨ X.env.scope.names.lookup x = some .local := by first | exact .inl rfl | exact .inr rfl | assumption) : PDG X Wx (.Name x pos) [i] (gdName i) :=
  pg_mono (pg_name hN hi hx hf) fun v σ H Q ⟨w, ρ, s, d, env, r, run⟩ => run.here ⟨env.set r, by simp, fun j hj => by
    rw [List.getElem?_set_ne (fun z => hj (by rw [z]; exact List.mem_cons_self ..))]⟩
theorem pdgs_nil : PDGs X Wx [] [] gdNil := pgs_mono pgs_nil fun vs σ H Q ⟨w, ρ, s, ds, env, r, run⟩ => by
  cases r with
  | nil => exact ⟨rfl, run.here ⟨env, rfl, fun _ _ => rfl⟩⟩
  | cons _ _ => exact run.no
theorem pdgs_cons (h1 : PDG X Wx e ts g) (h2 : PDGs X Wx es us k) (hs : (assignEach (e :: es) X.env).map (·.2) = assign e X.env :: (assignEach es X.env).map (·.2) := by rfl) : PDGs X Wx (e :: es) (ts ++ us) (gdCons g k) :=
  pgs_mono (pgs_cons h1 h2 hs) fun vs σ H Q ⟨w, ρ, s, ds, env, r, run⟩ => by
    cases r with
    | nil => exact run.no
    | cons r1 r2 =>
      refine ⟨_, _, rfl, w, ρ, s, _, env, r1, Run.bind (R' := RG X.K X.mg (ts ++ us) σ) run fun w1 ρ1 σ1 H1 s1 le1 hr1 run1 => ⟨w1, ρ1, s1, _, hr1.1, r2.mono le1, Run.bind (R' := RG X.K X.mg (ts ++ us) σ) (g := fun ρ => ret ρ) ?_ fun w2 ρ2 σ2 H2 s2 le2 hr2 run2 => Run.here run2 ?_⟩⟩
      · obtain ⟨st, rr, s', e, p⟩ := run1
        refine ⟨st, rr, s', ?_, p⟩
        unfold bnd
        rw [e]
        cases rr <;> rfl
      · refine ⟨hr2.1, hr2.2.1.trans hr1.2.1, fun i hi => ?_⟩
        rw [hr2.2.2 i (fun z => hi (List.mem_append_right _ z)), hr1.2.2 i (fun z => hi (List.mem_append_left _ z))]
theorem items_of {w : W} {s : S} {σ : L2.St} {H : Hp} {α β : Type} {R : W → α → β → Prop} {Q : β → Hp → Prop} {d : D} {v : V} {m : List D → M α} (r : RD K mg w d v) (run : Run K mg R Wx (bnd (oItems d) m) w s σ H Q) :
    ∃ a ds vs, v = .ref a ∧ (SqL K H a vs ∨ SqT K H a vs) ∧ RL K mg w ds vs ∧ Run K mg R Wx (m ds) w s σ H Q := by
  cases r <;> first
    | exact run.no
    | skip
  · next a ds vs q r => exact ⟨_, _, _, rfl, .inr (SqT.of (run.1.ex _ _ q)), r, run⟩
  · next a ds vs q r => exact ⟨_, _, _, rfl, .inr (same_t run.1.ex q), r, run⟩
  · next a ds vs q r => exact ⟨_, _, _, rfl, .inl (SqL.of (run.1.ex _ _ q)), r, run⟩
  · next a ds vs q r => exact ⟨_, _, _, rfl, .inl (run.1.ex.seq q), r, run⟩
  · next a p q =>
    have run : Run K mg R Wx (bnd (bnd (look a) fun d => match d with | .lst ds => ret ds | _ => stuck) m) w s σ H Q := run
    rw [bnd_bnd] at run
    obtain ⟨d, o, e1, e2, r, run⟩ := Run.look q run
    cases d <;> first
      | exact run.no
      | skip
    next ds =>
      obtain ⟨vs, rfl, r⟩ := r.lst_of
      exact ⟨_, _, _, rfl, .inl (SqL.of e2), r, run⟩
theorem pdg_seq {j : Nat} (hc : X.calm = true) (h : PDGs X Wx es ts k) (hn : (assignEach es X.env).length = n := by rfl) (hst : (assignEach es X.env).findIdx? (·.1) = none := by rfl) : PDG X Wx (.Tuple es j pos) ts (gdSeq n k) :=
  pg_mono (pg_or (pg_tup hc h hn hst) (pg_unl hc h hn hst)) fun v σ H Q ⟨w, ρ, s, d, env, r, run⟩ => by
    obtain ⟨a, ds, vs, rfl, hq, r2, run⟩ := items_of r run
    obtain ⟨hl, run⟩ := Run.guard (C := ds.length = n) run
    rcases hq with hq | hq
    · exact .inr ⟨a, vs, rfl, hq, by rw [← r2.length]; exact hl, w, ρ, s, ds, env, r2, run⟩
    · exact .inl ⟨a, vs, rfl, hq, by rw [← r2.length]; exact hl, w, ρ, s, ds, env, r2, run⟩
end

/-! ### = -/
def dAsg (f : En → M D) (g : D → En → M En) : En → M Fl := fun ρ => bnd (f ρ) fun d => bnd (g d ρ) fun ρ' => ret (.nx ρ')
def dSet (i : Nat) (f : En → M D) : En → M Fl := fun ρ => bnd (f ρ) fun d => ret (.nx (ρ.set i (some d)))
section
variable {X : Cx} {Wx : XK} {e tg o i : Expr} {f fo fi : En → M D} {g : D → En → M En} {ts : List Nat} {pos pos' tpos : Pos}
theorem pds_asg (he : PD X Wx e f) (hg : PDG X Wx tg ts g) (hs : swapsWithSole [tg] e pos.line X.env = pure false := by rfl) (hw : swappedStores [tg] e X.env = pure none := by rfl)
    (h1 : (assignEach [tg] X.env).map (·.2) = [assign tg X.env] := by rfl) : PDS X Wx (.Assign [tg] e pos) (dAsg f g) :=
  ps_mono (ps_asg he hg hs hw h1) fun D σ H ⟨w, ρ, s, env, run⟩ => ⟨w, ρ, s, env, run.bind fun w1 x v1 H1 s1 le1 r1 run1 => ⟨w1, ρ, s1, x, env.mono le1, r1, run1.bind fun w2 y v2 H2 s2 le2 r2 run2 => Run.here (b := FlV.nx v2) run2 r2.1⟩⟩
theorem pds_set (i : Nat) {x : Str} (hN : X.N.Nodup) (he : PD X Wx e f) (hi : X.N[i]? = some x := by rfl) (hx : Loc X.env.scope x := by first | exact Or.inl rfl | exact Or.inr rfl)
    (hs : swapsWith e (some (.Name x pos')) pos.line X.env = pure false := by rfl) (hf : X.fn x = true ∨ X.env.scope.names.lookup x = some .local := by first | exact .inl rfl | exact .inr rfl | assumption) :
    PDS X Wx (.Assign [.Name x pos'] e pos) (dSet i f) :=
  ps_mono (ps_set hN hi hx he hs hf) fun D σ H ⟨w, ρ, s, env, run⟩ => ⟨w, ρ, s, env, run.bind fun w1 x v1 H1 s1 le1 r1 run1 => Run.here (b := FlV.nx _) run1 ((env.mono le1).set r1)⟩
end

/-! ### objects written -/
/-- write the object: what is older than a frame takes nothing younger -/
def headOk : List Nat → Nat → D → Bool
  | [], _, _ => true
  | b :: _, a, d => decide (b ≤ a) || noRef d
def put (a : Nat) (d : D) : M Unit := fun s => if (headOk s.bases a d && ((s.objs[a]?).all fun c => !isLck c) && !isLck d) = true then some (.ok (), ⟨s.bases, s.objs.set a d⟩) else none
theorem Run.put {α β : Type} {R : W → α → β → Prop} {Wx : XK} {w : W} {s : S} {σ : L2.St} {H : Hp} {Q : β → Hp → Prop} {a : Nat} {p : Addr} {d : D} {o : HO} {m : M α} (hp : w.α[a]? = some p) (r : RO K mg w d o) (run : Run K mg R Wx (bnd (DS.put a d) fun _ => m) w s σ H Q) :
    Run K mg R Wx m w ⟨s.bases, s.objs.set a d⟩ σ (upd H p o) Q := by
  obtain ⟨st, rr, s', e, q⟩ := run
  unfold bnd DS.put at e
  by_cases hc : (headOk s.bases a d && ((s.objs[a]?).all fun c => !isLck c) && !isLck d) = true
  · rw [if_pos hc] at e
    rw [Bool.and_eq_true, Bool.and_eq_true, Bool.not_eq_true'] at hc
    refine ⟨st.put hp r (fun b hb hab => ?_) (fun c hcc => ?_) hc.2, rr, s', e, q⟩
    rotate_left
    · have := hc.1.2
      rw [hcc] at this
      simpa using this
    have h1 := hc.1.1
    have hd := st.dec
    cases hbs : s.bases with
    | nil => rw [hbs] at hb; cases hb
    | cons b0 bs =>
      rw [hbs] at h1 hb hd
      have h1 : (decide (b0 ≤ a) || noRef d) = true := h1
      rw [Bool.or_eq_true, decide_eq_true_eq] at h1
      rcases h1 with h | h
      · have : b ≤ b0 := by
          rcases List.mem_cons.mp hb with e | e
          · rw [e]; exact Nat.le_refl _
          · exact (List.pairwise_cons.mp hd).1 b e
        omega
      · exact r.cut (lowD_noRef b d h)
  · rw [if_neg hc] at e
    cases e
def rSt2 (X : Cx) (Wx : XK) (t : D → D → D → M Unit) : TSet := fun o i v H Q => ∃ w s x y z, RD X.K X.mg w x o ∧ RD X.K X.mg w y i ∧ RD X.K X.mg w z v ∧ ∃ σ, Run X.K X.mg (fun _ (_ : Unit) (_ : Unit) => True) Wx (t x y z) w s σ H (fun _ H' => Q H')
abbrev PDSet (X : Cx) (Wx : XK) (t : D → D → D → M Unit) : Prop := PSet X (rSt2 X Wx t)
theorem pset_mono {X : Cx} {t t' : TSet} (h : PSet X t) (i : ∀ o k v H Q, t' o k v H Q → t o k v H Q) : PSet X t' := fun pins s σ H o k v ov iv u Q I r1 r2 r3 q => h pins s σ H o k v ov iv u Q I r1 r2 r3 (i _ _ _ _ _ q)
theorem pset_or {X : Cx} {t t' : TSet} (h : PSet X t) (h' : PSet X t') : PSet X (fun o k v H Q => t o k v H Q ∨ t' o k v H Q) := fun pins s σ H o k v ov iv u Q I r1 r2 r3 q => q.elim (h pins s σ H o k v ov iv u Q I r1 r2 r3) (h' pins s σ H o k v ov iv u Q I r1 r2 r3)
/-- o[i] = v, o a list -/
def stL : D → D → D → M Unit
  | .ref a, .int k, z => bnd (look a) fun d => match d with
    | .lst ds => match ixN ds.length k with
      | some j => bnd (put a (.lst (ds.set j z))) fun _ => ret ()
      | none => stuck
    | _ => stuck
  | _, _, _ => stuck
theorem pdset_l {X : Cx} {Wx : XK} : PDSet X Wx stL := pset_mono set_list fun o k v H Q ⟨w, s, x, y, z, r1, r2, r3, σ, run⟩ => by
  cases r1 with
  | ref q =>
    cases r2 with
    | int k =>
      obtain ⟨d, ho, e1, e2, r, run⟩ := Run.look q run
      cases d <;> first
        | exact run.no
        | skip
      next ds =>
        obtain ⟨vs, rfl, r⟩ := r.lst_of
        dsimp only at run
        cases hj : ixN ds.length k with
        | none => rw [hj] at run; exact run.no
        | some j =>
          rw [hj] at run
          exact ⟨_, vs, k, j, rfl, rfl, e2, by rw [← r.length]; exact hj, (Run.put (d := .lst (ds.set j z)) (o := .lst (vs.set j v)) q (r.set r3 j) run).here (b := ()) trivial⟩
    | _ => exact run.no
  | _ => cases r2 <;> exact run.no
def gdSub (f g : En → M D) (t : D → D → D → M Unit) : D → En → M En := fun v ρ => bnd (f ρ) fun x => bnd (g ρ) fun y => bnd (t x y v) fun _ => ret ρ
theorem pdg_sub {X : Cx} {Wx : XK} {o i : Expr} {f g : En → M D} {t : D → D → D → M Unit} {pos : Pos} (ho : PD X Wx o f) (hi : PD X Wx i g) (hs : PDSet X Wx t)
    (ha : ∀ v, assign (.Subscript o i pos) X.env v = (do
      let ov ← holding [v] (eval o X.env)
      let iv ← holding [v, ov] (eval i X.env)
      standAt pos
      holding [v, ov, iv] (setItem ov iv v)
      release [v, ov, iv] []) := by intro _; rfl) : PDG X Wx (.Subscript o i pos) [] (gdSub f g t) :=
  pg_mono (pg_sub ho hi hs ha) fun v σ H Q ⟨w, ρ, s, d, env, r, run⟩ => ⟨w, ρ, s, env, Run.bind (R' := RG X.K X.mg [] σ) run fun w1 x v1 H1 s1 le1 r1 run1 => ⟨w1, ρ, s1, env.mono le1, Run.bind (R' := RG X.K X.mg [] σ) run1 fun w2 y v2 H2 s2 le2 r2 run2 =>
    ⟨w2, s2, x, y, d, r1.mono le2, r2, (r.mono le1).mono le2, σ, Run.bind (R' := RG X.K X.mg [] σ) run2 fun w3 _ _ H3 s3 le3 _ run3 => run3.here ⟨((env.mono le1).mono le2).mono le3, rfl, fun _ _ => rfl⟩⟩⟩⟩
end DS
/-! DSC0: comprehensions of any number of clauses (lists and dicts): the turns -/
namespace DS
open PySem L2 PySem.Spec PyProof.Rows

def cE (key : Option Expr) (elt : Expr) (gens : List Comprehension) (scope : Scope) (pos : Pos) : Expr := match key with
  | none => .ListComp elt gens scope pos
  | some k => .DictComp k elt gens scope pos
def emitC (key : Option Expr) (elt : Expr) (acc : Value) (env : Env) : Sem Unit := match key with
  | none => (do let _ ← call (.builtin "list.append") [acc, ← eval elt env])
  | some k => (do
        let kv ← eval k env
        let vv ← holding [kv] (eval elt env)
        match acc with
        | .ref d => do
          standAt { k.pos with endLine := elt.pos.endLine, endCol := elt.pos.endCol }
          holding [kv, vv] (dictSet d kv vv)
        | _ => unsupported "internal:dictcomp")
variable {key : Option Expr} {elt : Expr} {gens : List Comprehension} {scope : Scope} {pos : Pos} {d : Nat} {t i : Expr} {ifs : List Expr} {it acc : Value} {env : Env}
theorem compTurn_last (h : gens[d]? = some ⟨t, i, ifs, 0⟩) (h1 : gens[d + 1]? = none) :
    compTurn (cE key elt gens scope pos) d it acc env = (do
      standAt i.pos
      match ← pyNext it with
      | none => pure (.done .next)
      | some v =>
        letOwnedTupleGo t it v
        assign t env v
        let mut ok := true
        for c in ifs do
          if ok then ok ← isTrue c env (eval c env)
        if ok then
          emitC key elt acc env
        again (.compLoop (cE key elt gens scope pos) d it acc env)) := by
  cases key <;> (unfold compTurn; simp only [cE, h, h1]; rfl)
theorem compTurn_more {t1 i1 : Expr} {ifs1 : List Expr} (h : gens[d]? = some ⟨t, i, ifs, 0⟩) (h1 : gens[d + 1]? = some ⟨t1, i1, ifs1, 0⟩) :
    compTurn (cE key elt gens scope pos) d it acc env = (do
      standAt i.pos
      match ← pyNext it with
      | none => pure (.done .next)
      | some v =>
        letOwnedTupleGo t it v
        assign t env v
        let mut ok := true
        for c in ifs do
          if ok then ok ← isTrue c env (eval c env)
        if ok then
          let x ← eval i1 env
          standAt i1.pos
          let x ← foldedSetIterable i1 env x
          let _ ← runOwn (.compStart (cE key elt gens scope pos) (d + 1) (← holding [x] (pyIter x)) acc env) env
        again (.compLoop (cE key elt gens scope pos) d it acc env)) := by
  cases key <;> (unfold compTurn; simp only [cE, h, h1]; rfl)

section
variable {prog : Program} {w : World} {A : Around} {R : Result → Shared → Prop} {s : Shared}
/-- the loop of the last clause -/
theorem compLoop_last (h : gens[d]? = some ⟨t, i, ifs, 0⟩) (h1 : gens[d + 1]? = none) (I : Nat → Shared → Prop)
    (turn : ∀ n s, I n s → wpAny (model prog w) A (pyNext it) (fun r s₁ => match r with
      | none => R (.ok .next) s₁
      | some v => wpAny (model prog w) A (letOwnedTupleGo t it v) (fun _ s₁' => wpAny (model prog w) A (assign t env v) (fun _ s₂ =>
          wpAny (model prog w) A (forIn ifs true fun c r => if r = true then do let ok ← isTrue c env (eval c env); pure (ForInStep.yield ok) else pure (ForInStep.yield r)) (fun ok s₃ =>
            if ok = true then wpAny (model prog w) A (emitC key elt acc env) (fun _ s₅ => ∃ m, m < n ∧ I m s₅) (notedBy (model prog w) A env fun e s' => R (.error e) s') s₃
            else ∃ m, m < n ∧ I m s₃) (notedBy (model prog w) A env fun e s' => R (.error e) s') s₂) (notedBy (model prog w) A env fun e s' => R (.error e) s') s₁') (notedBy (model prog w) A env fun e s' => R (.error e) s') s₁) (notedBy (model prog w) A env fun e s' => R (.error e) s') s)
    (n : Nat) (hI : I n s) :
    codeAny (model prog w) A (.compLoop (cE key elt gens scope pos) d it acc env) R s := by
  refine codeAny_loop (by cases key <;> rfl) I (fun n s hI => ?_) n hI
  have hA : A.under (.compLoop (cE key elt gens scope pos) d it acc env) = A := by cases key <;> rfl
  have hsh : (model prog w).den (.compLoop (cE key elt gens scope pos) d it acc env) = ((compTurn (cE key elt gens scope pos) d it acc env).onRaise (fun x => do noteFrame x env; theTreesLotGoes x)) := by cases key <;> rfl
  rw [hA, hsh]
  refine wpAny_noted ?_
  rw [compTurn_last h h1]
  refine wpAny_bind (wpAny_standAt (wpAny_bind (wpAny_mono (turn n s hI) (fun r s₁ h₁ => ?_) fun _ _ h' => h')))
  cases r with
  | none => exact wpAny_pure h₁
  | some v =>
    refine wpAny_bind (wpAny_mono h₁ (fun _ s₁' h₁' => ?_) fun _ _ h' => h')
    refine wpAny_bind (wpAny_mono h₁' (fun _ s₂ h₂ => wpAny_bind (wpAny_mono h₂ (fun ok s₃ h₃ => ?_) fun _ _ h' => h')) fun _ _ h' => h')
    cases ok with
    | false => exact wpAny_pure ⟨rfl, h₃⟩
    | true => exact wpAny_bind (wpAny_mono h₃ (fun _ s₅ h₅ => wpAny_pure ⟨rfl, h₅⟩) fun _ _ h' => h')
/-- the loop of a clause ahead of another -/
theorem compLoop_more {t1 i1 : Expr} {ifs1 : List Expr} (h : gens[d]? = some ⟨t, i, ifs, 0⟩) (h1 : gens[d + 1]? = some ⟨t1, i1, ifs1, 0⟩) (hs : ∀ x, foldedSetIterable i1 env x = pure x) (I : Nat → Shared → Prop)
    (turn : ∀ n s, I n s → wpAny (model prog w) A (pyNext it) (fun r s₁ => match r with
      | none => R (.ok .next) s₁
      | some v => wpAny (model prog w) A (letOwnedTupleGo t it v) (fun _ s₁' => wpAny (model prog w) A (assign t env v) (fun _ s₂ =>
          wpAny (model prog w) A (forIn ifs true fun c r => if r = true then do let ok ← isTrue c env (eval c env); pure (ForInStep.yield ok) else pure (ForInStep.yield r)) (fun ok s₃ =>
            if ok = true then wpAny (model prog w) A (eval i1 env) (fun x s₄ => wpAny (model prog w) A (pyIter x) (fun it1 s₅ =>
              codeAny (model prog w) A (.compStart (cE key elt gens scope pos) (d + 1) it1 acc env) (fun r s' => match r with
                | .ok _ => ∃ m, m < n ∧ I m s'
                | .error _ => False) s₅) (notedBy (model prog w) A env fun e s' => R (.error e) s') s₄) (notedBy (model prog w) A env fun e s' => R (.error e) s') s₃
            else ∃ m, m < n ∧ I m s₃) (notedBy (model prog w) A env fun e s' => R (.error e) s') s₂) (notedBy (model prog w) A env fun e s' => R (.error e) s') s₁') (notedBy (model prog w) A env fun e s' => R (.error e) s') s₁) (notedBy (model prog w) A env fun e s' => R (.error e) s') s)
    (n : Nat) (hI : I n s) :
    codeAny (model prog w) A (.compLoop (cE key elt gens scope pos) d it acc env) R s := by
  refine codeAny_loop (by cases key <;> rfl) I (fun n s hI => ?_) n hI
  have hA : A.under (.compLoop (cE key elt gens scope pos) d it acc env) = A := by cases key <;> rfl
  have hsh : (model prog w).den (.compLoop (cE key elt gens scope pos) d it acc env) = ((compTurn (cE key elt gens scope pos) d it acc env).onRaise (fun x => do noteFrame x env; theTreesLotGoes x)) := by cases key <;> rfl
  rw [hA, hsh]
  refine wpAny_noted ?_
  rw [compTurn_more h h1]
  refine wpAny_bind (wpAny_standAt (wpAny_bind (wpAny_mono (turn n s hI) (fun r s₁ h₁ => ?_) fun _ _ h' => h')))
  cases r with
  | none => exact wpAny_pure h₁
  | some v =>
    refine wpAny_bind (wpAny_mono h₁ (fun _ s₁' h₁' => ?_) fun _ _ h' => h')
    refine wpAny_bind (wpAny_mono h₁' (fun _ s₂ h₂ => wpAny_bind (wpAny_mono h₂ (fun ok s₃ h₃ => ?_) fun _ _ h' => h')) fun _ _ h' => h')
    cases ok with
    | false => exact wpAny_pure ⟨rfl, h₃⟩
    | true =>
      refine wpAny_bind (wpAny_mono h₃ (fun x s₄ h₄ => ?_) fun _ _ h' => h')
      refine wpAny_bind (wpAny_standAt (wpAny_bind (wpAny_of_eq (hs x) (wpAny_bind (wpAny_holding (wpAny_mono h₄ (fun it1 s₅ h₅ => ?_) fun _ _ h' => h'))))))
      refine wpAny_bind (wpAny_runOwn ?_)
      rw [Around.mark_none]
      refine codeAny_mono h₅ fun r s' hr => ?_
      cases r with
      | ok f =>
        first
          | exact wpAny_pure ⟨rfl, hr⟩
          | exact wpAny_bind (wpAny_pure (wpAny_pure ⟨rfl, hr⟩))
      | error e => exact hr.elim
/-- a clause's start -/
theorem compStart_go (h : gens[d]? = some ⟨t, i, ifs, 0⟩) (h0 : codeAny (model prog w) A (.compLoop (cE key elt gens scope pos) d it acc env) R s)
    (hi : wpAny (model prog w) A (pyIter it) (fun it' s' => codeAny (model prog w) A (.compLoop (cE key elt gens scope pos) d it' acc env) R s')
      (notedBy (model prog w) A env fun x s' => R (.error x) s') s) :
    codeAny (model prog w) A (.compStart (cE key elt gens scope pos) d it acc env) R s := by
  refine codeAny_of_tree ?_
  have hA : A.under (.compStart (cE key elt gens scope pos) d it acc env) = A := by cases key <;> rfl
  have hsh : (model prog w).den (.compStart (cE key elt gens scope pos) d it acc env) = ((compStart (cE key elt gens scope pos) d it acc env).onRaise (fun x => do noteFrame x env; standAt theWindowsPlace)) := by cases key <;> rfl
  rw [hA, hsh]
  refine wpAny_notedAt ?_
  have hcl : clausesOf (cE key elt gens scope pos) = gens := by cases key <;> rfl
  unfold compStart
  rw [hcl, h]
  show wpAny _ _ (ask >>= _) _ _ s
  refine wpAny_bind (wpAny_askSetting (wpAny_ite ?_))
  split
  · first
      | exact wpAny_bind (wpAny_pure (wpAny_pure (And.intro rfl h0)))
      | exact wpAny_pure (And.intro rfl h0)
  · first
      | exact wpAny_bind (wpAny_rule (wpAny_bind (wpAny_standAt (wpAny_bind (wpAny_mono hi (fun it' s' h' => wpAny_pure (And.intro rfl h')) fun _ _ x => x)))))
      | (refine wpAny_bind (wpAny_rule ?_); show wpAny _ _ (standAt i.pos >>= _) _ _ s; exact wpAny_bind (wpAny_standAt (wpAny_bind (wpAny_mono hi (fun it' s' h' => wpAny_pure (And.intro rfl h')) fun _ _ x => x))))
end
end DS
/-! DSC1: comprehensions of any number of clauses: the rules -/
namespace DS
open PySem L2 PySem.Spec PyProof.Rows

/-- what a clause's tail reads: it reaches N -/
abbrev TC := L2.St → Hp → (Hp → Prop) → Prop
def tTurns (J : It) (g : TG) (tt : TT) (vs : List Nat) (t : TC) (σ : L2.St) (H1 : Hp) (N : Hp → Prop) : Prop :=
  ∃ W : Nat → Nat → Hp → Prop, (∃ m, W 0 m H1) ∧ ∀ i m H, W i m H → (J.stop i H ∧ N H) ∨ (J.go i H ∧ ∃ Nx : Hp → Prop, (∀ H', Nx H' → ∃ m', m' < m ∧ W (i + 1) m' H') ∧
    ∀ x H', J.yld i H x H' → g x (wipe σ vs) H' fun σ2 H2 => wipe σ2 vs = wipe σ vs ∧ tt σ2 H2 fun b H3 => if b = true then t σ2 H3 Nx else Nx H3)
def tCl (wi : TI) (g : TG) (tt : TT) (vs : List Nat) (t : TC) : TC := fun σ H N => wi σ H fun J H1 => tTurns J g tt vs t σ H1 N
def tEmL (te : TE) (D : Addr) : TC := fun σ H N => te σ H fun y H' => ∃ acc, H' D = some (.lst acc) ∧ acc.length < sizeLine ∧ N (upd H' D (.lst (acc ++ [y])))
def tEmD (tk te : TE) (D : Addr) : TC := fun σ H N => tk σ H fun x H1 => te σ H1 fun y H' => ∃ H2, DPut H' D x y H2 ∧ N H2

structure PCT (Y : Cx) (key : Option Expr) (elt : Expr) (gens : List Comprehension) (scope : Scope) (pos : Pos) (d : Nat) (D : Addr) (vs : List Nat) (t : TC) : Prop where
  last : gens[d]? = none → ∀ (pins : List (Addr × Obj)) (s : Shared) (σ : L2.St) (H : Hp) (N : Hp → Prop), Inv Y pins σ H s → t σ H N →
    wpAny (model Y.prog Y.w) Y.A (emitC key elt (.ref D) Y.env) (fun _ s' => ∃ H', Inv Y pins (wipe σ vs) H' s' ∧ N H') (fun _ _ => False) s
  more : ∀ tg i ifs, gens[d]? = some ⟨tg, i, ifs, 0⟩ → (∀ x, foldedSetIterable i Y.env x = pure x) ∧ ∀ (pins : List (Addr × Obj)) (s : Shared) (σ : L2.St) (H : Hp) (N : Hp → Prop), Inv Y pins σ H s → t σ H N →
    wpAny (model Y.prog Y.w) Y.A (eval i Y.env) (fun x s4 => wpAny (model Y.prog Y.w) Y.A (pyIter x) (fun it s5 => codeAny (model Y.prog Y.w) Y.A (.compStart (cE key elt gens scope pos) d it (.ref D) Y.env) (fun r s' => match r with
      | .ok _ => ∃ H', Inv Y pins (wipe σ vs) H' s' ∧ N H'
      | .error _ => False) s5) (fun _ _ => False) s4) (fun _ _ => False) s

section
variable {Y : Cx} {key : Option Expr} {elt : Expr} {gens : List Comprehension} {scope : Scope} {pos : Pos} {d : Nat} {D : Addr} {vs us : List Nat} {t : TC}
theorem Inv.wiped {pins : List (Addr × Obj)} {σ : L2.St} {H : Hp} {s : Shared} (I : Inv Y pins σ H s) : Inv Y pins (wipe σ vs) H s := I.weak (wipe_length _ _) fun j v e => (wipe_some e).1
theorem pct_emL {te : TE} (h : gens[d]? = none) (he : PE Y elt te) (hx : Y.xe = fun _ _ => False) : PCT Y none elt gens scope pos d D [] (tEmL te D) := by
  refine ⟨fun _ pins s σ H N I q => ?_, fun _ _ _ e => by rw [h] at e; cases e⟩
  have r := he.run pins s σ H _ I q
  rw [hx] at r
  show wpAny _ _ (do let _ ← call (.builtin "list.append") [Value.ref D, ← eval elt Y.env]) _ _ s
  refine wpAny_bind (thn r fun u s1 ⟨y, H1, I1, r1, acc, hD, hz, nx⟩ => ?_)
  refine wpAny_bind (app_ok I1 hD hz r1 fun s2 I2 => wpAny_pure ⟨_, I2, nx⟩)
theorem d_dictSetP {pins : List (Addr × Obj)} {σ : L2.St} {H H2 : Hp} {s : Shared} {E : Value → Shared → Prop} {x y : V} {u r : Value} {Q : Unit → Shared → Prop} (hu : Y.A.units + 1 < cLine) (I : Inv Y pins σ H s) (hD : DPut H D x y H2)
    (ry : RelV x u) (rv : RelV y r) (h : ∀ s', Inv Y pins σ H2 s' → Q () s') : wpAny (model Y.prog Y.w) Y.A (dictSet D u r) Q E s := by
  rcases hD with ⟨kvs, k, e, ey, hl, rfl⟩ | ⟨kvs, k, b, e, ey, eb, hl, rfl⟩
  · subst ey
    exact d_dictSet I e hl ry rv h
  · subst ey
    cases (show u = Value.ref b from ry)
    obtain ⟨z, hd, xs, rel, dd⟩ := dt_of I.hok e
    have hz : xs.length ≤ sizeLine := by rw [← Paired.length rel]; exact z
    have hl : (putK kvs k y).length ≤ sizeLine := by have := length_putK kvs k y; omega
    refine wpAny_dictSet_heap (hsz := hz) (show (tupleKind (mixKind Y.prog Y.w)).room Y.A by first | exact tupleKind_room (by omega) | exact tupleKind_room hu | exact (by omega : Y.A.units < cLine)) (key_of I.hok eb) dd fun h' dd' hs => h _ ?_
    obtain ⟨q, es, ep, hq, h2, h3, h4, _, h5⟩ := dd'
    refine d_write I (by rw [e]; exact True.intro) hs ⟨q, hq⟩ ⟨hl, hd, _, (rel.put k eb rv).keeps fun c ys ec => ?_, q, es, ep, hq, h2, h3, h4, h5⟩
    rw [upd_ne (ne_of ec e (fun z => nomatch z))]
    exact ec
theorem pct_emD {kx : Expr} {tk te : TE} (h : gens[d]? = none) (hk : PE Y kx tk) (he : PE Y elt te) (hu : Y.A.units + 1 < cLine) (hx : Y.xe = fun _ _ => False) : PCT Y (some kx) elt gens scope pos d D [] (tEmD tk te D) := by
  refine ⟨fun _ pins s σ H N I q => ?_, fun _ _ _ e => by rw [h] at e; cases e⟩
  have r := hk.run pins s σ H _ I q
  rw [hx] at r
  show wpAny _ _ (do
        let kv ← eval kx Y.env
        let vv ← holding [kv] (eval elt Y.env)
        standAt { kx.pos with endLine := elt.pos.endLine, endCol := elt.pos.endCol }
        holding [kv, vv] (dictSet D kv vv)) _ _ s
  refine wpAny_bind (thn r fun u s1 ⟨x, H1, I1, r1, q1⟩ => ?_)
  have r2 := he.run pins s1 σ H1 _ I1 q1
  rw [hx] at r2
  refine wpAny_bind (wpAny_holding (thn r2 fun u2 s2 ⟨y, H2, I2, r3, H3, hp, nx⟩ => ?_))
  refine wpAny_bind (wpAny_standAt (wpAny_holding (d_dictSetP hu I2 hp r1 r3 fun s3 I3 => ⟨_, I3, nx⟩)))
/-- the turns of a clause -/
theorem loop_at {tg i : Expr} {ifs : List Expr} {g : TG} {tt : TT} {it : Addr} {fp : List Addr} {tn : Nat → Heap → Prop} {J : It} (h : gens[d]? = some ⟨tg, i, ifs, 0⟩) (h1 : gens[d + 1]? = none ∨ ∃ t1 i1 ifs1, gens[d + 1]? = some ⟨t1, i1, ifs1, 0⟩)
    (hc : Y.calm = true) (hx : Y.xe = fun _ _ => False) (hg : PG Y tg g) (ht : PTs Y ifs tt) (hp : PCT Y key elt gens scope pos (d + 1) D us t) (hsub : ∀ j ∈ us, j ∈ vs) (T : Turn Y.prog Y.w Y.K tg J fp it tn)
    {pins : List (Addr × Obj)} {s : Shared} {σ : L2.St} {H : Hp} {N : Hp → Prop} (I : Inv Y pins (wipe σ vs) H s) (st : tn 0 s.heap) (ff : ∀ b ∈ fp, FpOk Y pins H b) (q : tTurns J g tt vs t σ H N) :
    codeAny (model Y.prog Y.w) Y.A (.compLoop (cE key elt gens scope pos) d (.ref it) (.ref D) Y.env) (fun r s' => r = .ok .next ∧ ∃ H', Inv Y pins (wipe σ vs) H' s' ∧ N H') s := by
  obtain ⟨W, ⟨m0, w0⟩, turn⟩ := q
  have stat : ∀ {H' : Hp}, (∀ b ∈ fp, H' b = none) → ∀ b ∈ fp, FpOk Y pins H' b := fun hn b hb => ⟨hn b hb, (ff b hb).2⟩
  have nn : ∀ b ∈ fp, H b = none := fun b hb => (ff b hb).1
  -- one turn up to the tail
  have body : ∀ (n : Nat) (s5 : Shared) (tail : Shared → Prop), (∃ i H', Inv Y pins (wipe σ vs) H' s5 ∧ tn i s5.heap ∧ (∀ b ∈ fp, H' b = none) ∧ W i n H') →
      (∀ (pins' : List (Addr × Obj)) (s9 : Shared) (σ8 : L2.St) (H9 : Hp) (Nx : Hp → Prop), Inv Y pins' σ8 H9 s9 → t σ8 H9 Nx →
        (∀ s' H', Inv Y pins' (wipe σ8 us) H' s' → Nx H' → ∃ m, m < n ∧ ∃ i H', Inv Y pins (wipe σ vs) H' s' ∧ tn i s'.heap ∧ (∀ b ∈ fp, H' b = none) ∧ W i m H') → tail s9) →
      wpAny (model Y.prog Y.w) Y.A (pyNext (.ref it)) (fun r s₁ => match r with
        | none => ∃ H', Inv Y pins (wipe σ vs) H' s₁ ∧ N H'
        | some v => wpAny (model Y.prog Y.w) Y.A (letOwnedTupleGo tg (.ref it) v) (fun _ s₁' => wpAny (model Y.prog Y.w) Y.A (assign tg Y.env v) (fun _ s₂ =>
          wpAny (model Y.prog Y.w) Y.A (forIn ifs true fun c r => if r = true then do let ok ← isTrue c Y.env (eval c Y.env); pure (ForInStep.yield ok) else pure (ForInStep.yield r)) (fun ok s₃ =>
            if ok = true then tail s₃ else ∃ m, m < n ∧ ∃ i H', Inv Y pins (wipe σ vs) H' s₃ ∧ tn i s₃.heap ∧ (∀ b ∈ fp, H' b = none) ∧ W i m H') (fun _ _ => False) s₂) (fun _ _ => False) s₁') (fun _ _ => False) s₁) (fun _ _ => False) s5 := by
    rintro n s5 tail ⟨i, H5, I5, st5, n5, w5⟩ htail
    rcases turn i n H5 w5 with ⟨stop, qq⟩ | ⟨go, Nx, hNx, step⟩
    · have td := T.done Y rfl rfl rfl hc i pins s5 _ H5 (fun _ _ => False) I5 (stat n5) st5 stop
      refine thnF td fun r s6 ⟨hr, I6⟩ => ?_
      subst hr
      exact ⟨H5, I6, qq⟩
    · have ti := T.item Y rfl rfl rfl hc i pins s5 _ H5 (fun _ _ => False) I5 (stat n5) st5 go
      refine thnF ti fun r s6 ⟨u, hr, h6⟩ => ?_
      subst hr
      refine thnF h6 fun _ s7 ⟨x, H7, I7, r7, y7, st7, n7⟩ => ?_
      have I7' := I7.pinned (stat n7) (T.obj _ _ st7)
      have gg := hg.run _ s7 _ H7 x u _ I7' r7 (step x H7 y7)
      rw [hx] at gg
      refine thnF gg fun _ s8 ⟨σ8, H8, I8, hw8, q8⟩ => ?_
      have tg8 := ht.run _ s8 σ8 H8 _ I8 q8
      rw [hx] at tg8
      refine thnF tg8 fun b s9 ⟨H9, I9, q9⟩ => ?_
      have hl : (wipe σ vs).length = σ8.length := by rw [← hw8, wipe_length]
      have fin : ∀ {σ9 : L2.St} {s' : Shared} {H' : Hp}, Inv Y (pins ++ pinsAt fp s7.heap) σ9 H' s' → (wipe σ vs).length = σ9.length → (∀ (j : Nat) v, (wipe σ vs)[j]? = some (some v) → σ9[j]? = some (some v)) → Nx H' →
          ∃ m, m < n ∧ ∃ i H', Inv Y pins (wipe σ vs) H' s' ∧ tn i s'.heap ∧ (∀ b ∈ fp, H' b = none) ∧ W i m H' := fun {σ9 s' H'} I' hl hk nx => by
        obtain ⟨m', hm, w'⟩ := hNx H' nx
        have pin' : ∀ b ∈ fp, ∀ o, s7.heap.get? b = some o → s'.heap.get? b = some o ∧ H' b = none := fun b hb o e =>
          let z := I'.pin (b, o) (List.mem_append_right _ (List.mem_append_right _ (mem_pinsAt hb e)))
          ⟨z.1, z.2.1⟩
        refine ⟨m', hm, i + 1, H', I'.unpinned.weak hl hk, T.keep _ _ _ st7 fun b hb o e => (pin' b hb o e).1, fun b hb => ?_, w'⟩
        obtain ⟨o, e, _⟩ := T.obj _ _ st7 b hb
        exact (pin' b hb o e).2
      cases b with
      | false =>
        simp only [Bool.false_eq_true, if_false] at q9 ⊢
        exact fin I9 hl (fun j v e => by rw [← hw8] at e; exact (wipe_some e).1) q9
      | true =>
        simp only [if_true] at q9 ⊢
        refine htail _ s9 σ8 H9 Nx I9 q9 fun s' H' I' nx => fin I' (by rw [hl, wipe_length]) (fun j v e => ?_) nx
        rw [← hw8] at e
        obtain ⟨e1, e2⟩ := wipe_some e
        rw [wipe_out fun z => e2 (hsub j z)]
        exact e1
  rcases h1 with h1 | ⟨t1, i1, ifs1, h1⟩
  · refine compLoop_last h h1 (fun n s' => ∃ i H', Inv Y pins (wipe σ vs) H' s' ∧ tn i s'.heap ∧ (∀ b ∈ fp, H' b = none) ∧ W i n H') (fun n s5 hI => ?_) m0 ⟨0, H, I, st, nn, w0⟩
    refine wpAny_mono (body n s5 (fun s9 => wpAny (model Y.prog Y.w) Y.A (emitC key elt (.ref D) Y.env) (fun _ s₅ => ∃ m, m < n ∧ ∃ i H', Inv Y pins (wipe σ vs) H' s₅ ∧ tn i s₅.heap ∧ (∀ b ∈ fp, H' b = none) ∧ W i m H') (fun _ _ => False) s9) hI fun pins' s9 σ8 H9 Nx I9 q9 fin => ?_) (fun r s₁ hr => ?_) fun _ _ z => z.elim
    · exact thnF (hp.last h1 pins' s9 σ8 H9 Nx I9 q9) fun _ s10 ⟨H10, I10, nx⟩ => fin s10 H10 I10 nx
    · cases r with
      | none => exact ⟨rfl, hr⟩
      | some v =>
        refine thnF hr fun _ s2 h2 => thnF h2 fun _ s3 h3 => thnF h3 fun b s4 h4 => ?_
        cases b with
        | false => exact h4
        | true => exact thnF h4 fun _ _ z => z
  · have hm := hp.more t1 i1 ifs1 h1
    refine compLoop_more h h1 hm.1 (fun n s' => ∃ i H', Inv Y pins (wipe σ vs) H' s' ∧ tn i s'.heap ∧ (∀ b ∈ fp, H' b = none) ∧ W i n H') (fun n s5 hI => ?_) m0 ⟨0, H, I, st, nn, w0⟩
    refine wpAny_mono (body n s5 (fun s9 => wpAny (model Y.prog Y.w) Y.A (eval i1 Y.env) (fun x s4 => wpAny (model Y.prog Y.w) Y.A (pyIter x) (fun it s5 => codeAny (model Y.prog Y.w) Y.A (.compStart (cE key elt gens scope pos) (d + 1) it (.ref D) Y.env) (fun r s' => match r with
      | .ok _ => ∃ m, m < n ∧ ∃ i H', Inv Y pins (wipe σ vs) H' s' ∧ tn i s'.heap ∧ (∀ b ∈ fp, H' b = none) ∧ W i m H'
      | .error _ => False) s5) (fun _ _ => False) s4) (fun _ _ => False) s9) hI fun pins' s9 σ8 H9 Nx I9 q9 fin => ?_) (fun r s₁ hr => ?_) fun _ _ z => z.elim
    · refine thnF (hm.2 pins' s9 σ8 H9 Nx I9 q9) fun x s10 h10 => thnF h10 fun it1 s11 h11 => codeAny_mono h11 fun r s12 h12 => ?_
      cases r with
      | error e => exact h12
      | ok f =>
        obtain ⟨H', I', nx⟩ := h12
        exact fin s12 H' I' nx
    · cases r with
      | none => exact ⟨rfl, hr⟩
      | some v =>
        refine thnF hr fun _ s2 h2 => thnF h2 fun _ s3 h3 => thnF h3 fun b s4 h4 => ?_
        cases b with
        | false => exact h4
        | true => exact thnF h4 fun x s5 h5 => thnF h5 fun it1 s6 h6 => h6
/-- a clause behind another -/
theorem pct_cl {tg i : Expr} {ifs : List Expr} {wi : TI} {g : TG} {tt : TT} (h : gens[d]? = some ⟨tg, i, ifs, 0⟩) (h1 : gens[d + 1]? = none ∨ ∃ t1 i1 ifs1, gens[d + 1]? = some ⟨t1, i1, ifs1, 0⟩) (hs : ∀ x, foldedSetIterable i Y.env x = pure x)
    (hc : Y.calm = true) (hx : Y.xe = fun _ _ => False) (hi : PI Y tg i wi) (hg : PG Y tg g) (ht : PTs Y ifs tt) (hp : PCT Y key elt gens scope pos (d + 1) D us t) (hsub : ∀ j ∈ us, j ∈ vs) : PCT Y key elt gens scope pos d D vs (tCl wi g tt vs t) := by
  refine ⟨fun e => (by rw [h] at e; cases e), fun tg' i' ifs' e => ?_⟩
  rw [h] at e
  cases e
  refine ⟨hs, fun pins s σ H N I q => ?_⟩
  have r := hi.run pins s σ H _ I q
  rw [hx] at r
  refine thn r fun x s1 h1' => thn h1' fun itv s2 h2 => ?_
  obtain ⟨it, fp, tn, J, H2, e, I2, T, st2, f2, q2⟩ := h2
  subst e
  have lp := codeAny_mono (loop_at h h1 hc hx hg ht hp hsub T (Inv.wiped I2) st2 f2 q2) (R' := fun r s' => match r with
      | .ok _ => ∃ H', Inv Y pins (wipe σ vs) H' s' ∧ N H'
      | .error _ => False) fun r s' hr => by
    obtain ⟨hr, z⟩ := hr
    subst hr
    exact z
  exact compStart_go h lp (T.self Y.A 0 _ _ _ st2 lp)
end
end DS
/-! DSC2: comprehensions of any number of clauses, as values -/
namespace DS
open PySem L2 PySem.Spec PyProof.Rows

def tComp (o0 : HO) (wi : TI) (g : TG) (tt : TT) (vs : List Nat) (t : Addr → TC) : TE := fun σ H Q => wi σ H fun J H1 => ∀ D, H1 D = none → tTurns J g tt vs (t D) σ (upd H1 D o0) fun H => Q (.ref D) H
def ob0 : Option Expr → Obj
  | none => { cls := .type "list", data := .seq ([] : List Value).toArray }
  | some _ => { cls := .type "dict", data := .dict #[] }
def OkO (key : Option Expr) (o0 : HO) : Prop := match key with
  | none => o0 = .lst []
  | some _ => o0 = .dK [] ∨ o0 = .dT []
theorem okO_laid {P : Program} {w : World} {key : Option Expr} {o0 : HO} (h0 : OkO key o0) (H : Hp) (h : Heap) (hb : sysModules < h.objs.size) : ObjOk P w H (h.push (ob0 key)) h.objs.size o0 := by
  cases key with
  | none =>
    cases h0
    exact ⟨Nat.zero_le _, [], 0, .nil, Heap.get?_push_size _ rfl⟩
  | some k =>
    rcases h0 with h0 | h0
    · subst h0
      exact dk_empty h hb
    · subst h0
      exact dt_empty h hb
section
variable {X : Cx} {key : Option Expr} {elt tg iter : Expr} {ifs : List Expr} {gens : List Comprehension} {scope : Scope} {pos pos' : Pos} {own : List (Str × Nat)} {us : List Nat} {wi : TI} {g : TG} {tt : TT} {t : Addr → TC} {o0 : HO}
theorem comp_core {pins : List (Addr × Obj)} {σ : L2.St} {H2 : Hp} {s2 : Shared} {it : Addr} {fp : List Addr} {tn : Nat → Heap → Prop} {J : It} {R : Addr → Result → Shared → Prop} {E : Value → Shared → Prop}
    (hc : X.calm = true) (hN : X.N.Nodup) (ok : BlkOk X.N X.env.scope scope own) (h1 : gens[0]? = none ∨ ∃ t1 i1 ifs1, gens[0]? = some ⟨t1, i1, ifs1, 0⟩)
    (hg : ∀ (s : Shared) (H : Hp) (C : Addr) (cl : List (Str × Addr)) (fp : List Addr), PG (X.blk s H scope (compEnvC scope cl C X.env) fp) tg g) (ht : ∀ (s : Shared) (H : Hp) (C : Addr) (cl : List (Str × Addr)) (fp : List Addr), PTs (X.blk s H scope (compEnvC scope cl C X.env) fp) ifs tt)
    (hp : ∀ (D : Addr) (s : Shared) (H : Hp) (C : Addr) (cl : List (Str × Addr)) (fp : List Addr), PCT (X.blk s H scope (compEnvC scope cl C X.env) fp) key elt (⟨tg, iter, ifs, 0⟩ :: gens) scope pos 1 D us (t D)) (hsub : ∀ j ∈ us, j ∈ own.map (·.2)) (h0 : OkO key o0)
    (I2 : Inv X pins σ H2 s2) (T : Turn X.prog X.w X.K tg J fp it tn) (st2 : tn 0 s2.heap) (f2 : ∀ b ∈ fp, FpOk X pins H2 b) {N : Hp → Prop} (q : tTurns J g tt (own.map (·.2)) (t s2.heap.objs.size) σ (upd H2 s2.heap.objs.size o0) N)
    (hRR : ∀ C s' m H', Inv X pins σ H' s' → N H' → s'.heap.Ns C m → FpOk X pins H' C → R C (.ok .next) s') :
    ∃ s3, s3 = ({ s2 with heap := s2.heap.push (ob0 key) } : Shared) ∧ codeAny (model X.prog X.w) X.A (.compStart (cE key elt (⟨tg, iter, ifs, 0⟩ :: gens) scope pos) 0 (.ref it) (.ref s2.heap.objs.size) (compEnvC scope (cellsFrom (s3.heap.objs.size + 1) scope.names (cloFrom X.env.cells scope.names [])) s3.heap.objs.size X.env))
      (R s3.heap.objs.size) { s3 with heap := pushCells (s3.heap.push { cls := .type "dict", data := .dict #[] }) scope.names } := by
  refine ⟨_, rfl, ?_⟩
  generalize hD : s2.heap.objs.size = D at q ⊢
  generalize hs3 : ({ s2 with heap := s2.heap.push (ob0 key) } : Shared) = s3
  have I3 : Inv X pins σ (upd H2 D o0) s3 := by
    rw [← hs3]
    refine I2.laid (t' := s2.toks) (fun b o e => Heap.get?_push_of_some _ e) (Nat.le_of_eq hD) ?_
    rw [← hD]
    exact okO_laid h0 _ s2.heap I2.big
  have h3 : s3.heap = s2.heap.push (ob0 key) := by rw [← hs3]
  have sz : ∀ b ∈ fp, b < s2.heap.objs.size := fun b hb => by
    obtain ⟨o, e, _⟩ := T.obj _ _ st2 b hb
    exact Heap.lt_size e
  have f3 : ∀ b ∈ fp, FpOk X pins (upd H2 D o0) b ∧ b < s3.heap.objs.size := fun b hb => by
    have hlt := sz b hb
    refine ⟨⟨?_, (f2 b hb).2⟩, by rw [h3, Heap.size_push]; exact Nat.lt_succ_of_lt hlt⟩
    rw [upd_ne (by rw [← hD]; exact Nat.ne_of_lt hlt)]
    exact (f2 b hb).1
  have st3 : tn 0 s3.heap := T.keep _ _ _ st2 fun b _ o e => by rw [h3]; exact Heap.get?_push_of_some _ e
  have I4 := block_start I3 ok hN f3
  have pg := hg s3 (upd H2 D o0) s3.heap.objs.size (cellsFrom (s3.heap.objs.size + 1) scope.names (cloFrom X.env.cells scope.names [])) fp
  have pt := ht s3 (upd H2 D o0) s3.heap.objs.size (cellsFrom (s3.heap.objs.size + 1) scope.names (cloFrom X.env.cells scope.names [])) fp
  have pp := hp D s3 (upd H2 D o0) s3.heap.objs.size (cellsFrom (s3.heap.objs.size + 1) scope.names (cloFrom X.env.cells scope.names [])) fp
  generalize hce : compEnvC scope (cellsFrom (s3.heap.objs.size + 1) scope.names (cloFrom X.env.cells scope.names [])) s3.heap.objs.size X.env = ce at I4 pg pt pp ⊢
  have cL : ce.locals = s3.heap.objs.size := by subst hce; rfl
  generalize hH3 : upd H2 D o0 = H3 at I3 I4 pg pt pp q f3
  generalize hs4 : ({ s3 with heap := pushCells (s3.heap.push { cls := .type "dict", data := .dict #[] }) scope.names } : Shared) = s4 at I4 ⊢
  have st4 : tn 0 s4.heap := T.keep _ _ _ st3 fun b _ o e => by rw [← hs4]; exact pushCells_keeps _ _ _ _ (Heap.get?_push_of_some _ e)
  have f4 : ∀ b ∈ fp, FpOk (X.blk s3 H3 scope ce fp) [] H3 b := fun b hb =>
    ⟨(f3 b hb).1.1, (I4.ok.exf b hb).1, I4.ok.exfs b hb, .inl hb, fun x c e => (I4.ok.exf b hb).2 x c e, fun p hp => absurd (show p ∈ ([] : List (Addr × Obj)) ++ [] from hp) (by simp)⟩
  have lp := loop_at (Y := X.blk s3 H3 scope ce fp) (key := key) (elt := elt) (gens := ⟨tg, iter, ifs, 0⟩ :: gens) (scope := scope) (pos := pos) (d := 0) (i := iter) rfl h1 hc rfl pg pt pp hsub T I4 st4 f4 q
  have loop : codeAny (model X.prog X.w) X.A (.compLoop (cE key elt (⟨tg, iter, ifs, 0⟩ :: gens) scope pos) 0 (.ref it) (.ref D) ce) (R s3.heap.objs.size) s4 := by
    refine codeAny_mono lp fun r s6 ⟨hr, H5, I6, nx⟩ => ?_
    subst hr
    have I7 : Inv X pins σ H5 s6 := I3.call' (ch := fp) I6.os I6.base I6.hok I6.bare fun b hb => ⟨(f3 b hb).1.2.2.2.1, (f3 b hb).1.2.1, (f3 b hb).1.2.2.2.2.1, (f3 b hb).1.2.2.2.2.2⟩
    have nC : H5 s3.heap.objs.size = none := by
      have z : H5 ce.locals = none := I6.free
      rw [cL] at z
      exact z
    obtain ⟨m, hn, _⟩ := I6.loc
    have hn : s6.heap.Ns ce.locals m := hn
    rw [cL] at hn
    exact hRR s3.heap.objs.size s6 m H5 I7 nx hn (I3.fpOk (Nat.le_refl _) nC)
  exact compStart_go (d := 0) rfl loop (T.self X.A 0 _ _ _ st4 loop)
theorem pe_comp (hc : X.calm = true) (hN : X.N.Nodup) (hi : PI X tg iter wi) (ok : BlkOk X.N X.env.scope scope own) (h1 : gens[0]? = none ∨ ∃ t1 i1 ifs1, gens[0]? = some ⟨t1, i1, ifs1, 0⟩)
    (hg : ∀ (s : Shared) (H : Hp) (C : Addr) (cl : List (Str × Addr)) (fp : List Addr), PG (X.blk s H scope (compEnvC scope cl C X.env) fp) tg g) (ht : ∀ (s : Shared) (H : Hp) (C : Addr) (cl : List (Str × Addr)) (fp : List Addr), PTs (X.blk s H scope (compEnvC scope cl C X.env) fp) ifs tt)
    (hp : ∀ (D : Addr) (s : Shared) (H : Hp) (C : Addr) (cl : List (Str × Addr)) (fp : List Addr), PCT (X.blk s H scope (compEnvC scope cl C X.env) fp) key elt (⟨tg, iter, ifs, 0⟩ :: gens) scope pos 1 D us (t D)) (hsub : ∀ j ∈ us, j ∈ own.map (·.2)) (h0 : OkO key o0)
    (hs : ∀ x, foldedSetIterable iter X.env x = pure x) : PE X (cE key elt (⟨tg, iter, ifs, 0⟩ :: gens) scope pos) (tComp o0 wi g tt (own.map (·.2)) t) := by
  refine ⟨fun pins s σ H Q I h => ?_⟩
  have hfree : ∀ y ∈ scope.names, y.2 = .free → ∃ c, X.env.cells.lookup y.1 = some c := fun y hy e => by
    rcases ok.free y hy e with k | k
    · exact I.ok.has _ (.inl k)
    · exact I.ok.has _ (.inr k)
  cases key with
  | none =>
    show wpAny _ _ (eval (.ListComp elt (⟨tg, iter, ifs, 0⟩ :: gens) scope pos) X.env) _ _ s
    rw [eval_ListComp]
    refine wpAny_comprehension_free (use := none) rfl hs (closure_ok hfree) ok.kind (fun y hy e => by rw [ok.uniq y hy, e])
      (thn (hi.run pins s σ H _ I h) fun xv s1 hx => thn hx fun itv s2 h2 => ?_)
    obtain ⟨it, fp, tn, J, H2, e, I2, T, st2, f2, q⟩ := h2
    subst e
    refine wpAny_newObj_type (newEnv_comp ?_) (by show 0 ≤ sizeLine; decide)
    obtain ⟨s3, e3, r⟩ := comp_core (key := none) (R := fun C => compPost (model X.prog X.w) X.A X.xe none (EP X pins σ Q) (.ref s2.heap.objs.size) C) (E := X.xe) hc hN ok h1 hg ht hp hsub h0 I2 T st2 f2 (q s2.heap.objs.size (I2.hok.fresh (Nat.le_refl _)))
      fun C s' m H' I' q hn f => ⟨m, hn, fun h'' sb => by
        obtain ⟨f0, f1, f2, f3, f4, f5⟩ := f
        exact ⟨.ref _, H', I'.turned (t' := s'.toks) (fun b o hb e => (sb.2 b hb).trans e) f0 f1 f3 f4 f5, rfl, q⟩⟩
    subst e3
    exact r
  | some k =>
    show wpAny _ _ (eval (.DictComp k elt (⟨tg, iter, ifs, 0⟩ :: gens) scope pos) X.env) _ _ s
    rw [arm_eval_DictComp]
    refine wpAny_comprehension_free (use := none) rfl hs (closure_ok hfree) ok.kind (fun y hy e => by rw [ok.uniq y hy, e])
      (thn (hi.run pins s σ H _ I h) fun xv s1 hx => thn hx fun itv s2 h2 => ?_)
    obtain ⟨it, fp, tn, J, H2, e, I2, T, st2, f2, q⟩ := h2
    subst e
    refine wpAny_newObj_type (newEnv_comp ?_)
    obtain ⟨s3, e3, r⟩ := comp_core (key := some k) (R := fun C => compPost (model X.prog X.w) X.A X.xe none (EP X pins σ Q) (.ref s2.heap.objs.size) C) (E := X.xe) hc hN ok h1 hg ht hp hsub h0 I2 T st2 f2 (q s2.heap.objs.size (I2.hok.fresh (Nat.le_refl _)))
      fun C s' m H' I' q hn f => ⟨m, hn, fun h'' sb => by
        obtain ⟨f0, f1, f2, f3, f4, f5⟩ := f
        exact ⟨.ref _, H', I'.turned (t' := s'.toks) (fun b o hb e => (sb.2 b hb).trans e) f0 f1 f3 f4 f5, rfl, q⟩⟩
    subst e3
    exact r
/-- name = [..] on one line, the name a plain local -/
theorem ps_setComp {i : Nat} {y : Str} {py spos : Pos} (hc : X.calm = true) (hN : X.N.Nodup) (hy : X.N[i]? = some y) (hyl : X.env.scope.names.lookup y = some .local)
    (hsw : swapsWith (.ListComp elt (⟨tg, iter, ifs, 0⟩ :: gens) scope pos) (some (.Name y py)) spos.line X.env = pure true)
    (hi : PI X tg iter wi) (ok : BlkOk X.N X.env.scope scope own) (h1 : gens[0]? = none ∨ ∃ t1 i1 ifs1, gens[0]? = some ⟨t1, i1, ifs1, 0⟩)
    (hg : ∀ (s : Shared) (H : Hp) (C : Addr) (cl : List (Str × Addr)) (fp : List Addr), PG (X.blk s H scope (compEnvC scope cl C X.env) fp) tg g) (ht : ∀ (s : Shared) (H : Hp) (C : Addr) (cl : List (Str × Addr)) (fp : List Addr), PTs (X.blk s H scope (compEnvC scope cl C X.env) fp) ifs tt)
    (hp : ∀ (D : Addr) (s : Shared) (H : Hp) (C : Addr) (cl : List (Str × Addr)) (fp : List Addr), PCT (X.blk s H scope (compEnvC scope cl C X.env) fp) none elt (⟨tg, iter, ifs, 0⟩ :: gens) scope pos 1 D us (t D)) (hsub : ∀ j ∈ us, j ∈ own.map (·.2))
    (hs : ∀ x, foldedSetIterable iter X.env x = pure x) : PS X (.Assign [.Name y py] (.ListComp elt (⟨tg, iter, ifs, 0⟩ :: gens) scope pos) spos) (tAsg (tComp (.lst []) wi g tt (own.map (·.2)) t) (gName i)) := by
  refine ⟨fun pins s σ H D I h => ?_⟩
  rw [exec_Assign_Name_used _ _ _ _ hsw]
  refine wpAny_bind (wpAny_standAt (wpAny_bind ?_))
  show wpAny _ X.A (do let _ ← comprehension (.ListComp elt (⟨tg, iter, ifs, 0⟩ :: gens) scope pos) scope X.env (firstIterPos (⟨tg, iter, ifs, 0⟩ :: gens) pos) (newList []) false (eval iter X.env) (some (assign (.Name y py) X.env))) _ _ s
  have h : tComp (.lst []) wi g tt (own.map (·.2)) t σ H (fun x H1 => gName i x σ H1 D.nx) := h
  have hfree : ∀ y ∈ scope.names, y.2 = .free → ∃ c, X.env.cells.lookup y.1 = some c := fun y hy e => by
    rcases ok.free y hy e with k | k
    · exact I.ok.has _ (.inl k)
    · exact I.ok.has _ (.inr k)
  refine wpAny_bind (thn (Q := fun _ s' => SP X pins D .next s') ?_ fun _ s' hq => wpAny_pure (wpAny_pure hq))
  refine wpAny_comprehension_free (use := some (assign (.Name y py) X.env)) rfl hs (closure_ok hfree) ok.kind (fun y hy e => by rw [ok.uniq y hy, e])
      (thn (hi.run pins s σ H _ I h) fun xv s1 hx => thn hx fun itv s2 h2 => ?_)
  obtain ⟨it, fp, tn, J, H2, e, I2, T, st2, f2, q⟩ := h2
  subst e
  refine wpAny_newObj_type (newEnv_comp ?_) (by show 0 ≤ sizeLine; decide)
  obtain ⟨s3, e3, r⟩ := comp_core (key := none) (R := fun C => compPost (model X.prog X.w) X.A X.xe (some (assign (.Name y py) X.env)) (fun _ s' => SP X pins D .next s') (.ref s2.heap.objs.size) C) (E := X.xe) hc hN ok h1 hg ht hp hsub rfl I2 T st2 f2 (q s2.heap.objs.size (I2.hok.fresh (Nat.le_refl _)))
    fun C s' m H' I' q hn f => by
      show wpAny _ _ (assign (.Name y py) X.env (.ref s2.heap.objs.size)) _ _ _
      refine wpAny_assign_Name (store_ok2 (v := V.ref s2.heap.objs.size) I' hN hy (.inl hyl) rfl (fun s2 I2 ⟨a, sb, ha⟩ => ?_) (.inr hyl))
      obtain ⟨f0, f1, f2, f3, f4, f5⟩ := f
      have haC : C ≠ a := by
        rcases ha with z | z
        · rw [z]; exact f1
        · exact fun e => f4 y a z e.symm
      refine ⟨m, hn.sameBut sb haC, fun h3 sb3 => ?_⟩
      exact ⟨_, H', I2.turned (t' := s2.toks) (fun b o hb e => (sb3.2 b hb).trans e) f0 f1 f3 f4 f5, q⟩
  subst e3
  exact r
end
end DS
/-! DSE: what is walked: a list or a tuple, enumerate of one -/
namespace DS
open PySem L2 PySem.Spec PyProof.Rows

set_option maxHeartbeats 4000000 in
theorem meets_enum1 {v : Value} {o : Obj} {H : Heap → Prop} (B : Begins v o H) :
    Meets (Builtin.«enumerate.__new__» ⟨[.type "enumerate", v], []⟩) (fun _ R s => H s.heap ∧
      R (.ok (.ret (.ref (s.heap.push o).objs.size))) { s with heap := (s.heap.push o).push { cls := .type "enumerate", data := .fields #[.none, .bool false, .ref s.heap.objs.size, rawInt 0, .none, .none] } }) :=
  .of_wp fun prog w A R s h => by
    obtain ⟨hp, g, d, tk, os⟩ := s; obtain ⟨h1, h⟩ := h
    have hsub := sub_enumerate
    have q1 : ∀ {A' : Around} {E : Value → Shared → Prop} {Q : Value → Shared → Prop}, Q (.ref hp.objs.size) ⟨hp.push o, g, d, tk, os⟩ → wpAny (model prog w) A' (pyIter v) Q E ⟨hp, g, d, tk, os⟩ :=
      fun q => B.iter prog w _ _ ⟨hp, g, d, tk, os⟩ _ h1 q
    wp_walk using q1
    refine wpAny_stack_any fun st => wpAny_pure ?_
    split
    · rename_i c _ _ _ _ _
      cases (c == Value.type "enumerate")
      · wp_walk using q1
        exact ⟨_, rfl, h⟩
      · wp_walk using q1
        exact ⟨_, rfl, h⟩
    · wp_walk using q1
      exact ⟨_, rfl, h⟩
theorem enum1 {prog : Program} {w : World} {A : Around} {E : Value → Shared → Prop} {s : Shared} {v : Value} {o : Obj} {H : Heap → Prop} {Q : Value → Shared → Prop} (B : Begins v o H) (h1 : H s.heap)
    (h : ∀ h', IsEnum h' (s.heap.objs.size + 1) s.heap.objs.size 0 .none → h'.get? s.heap.objs.size = some o → h'.objs.size = s.heap.objs.size + 2 →
      (∀ b o, s.heap.get? b = some o → h'.get? b = some o) → Q (.ref (s.heap.objs.size + 1)) { s with heap := h' }) :
    wpAny (model prog w) A (call (.type "enumerate") [v]) Q E s := by
  refine callType_new F.called_enumerate (by decide) (F.typeCall_enumerate_1 _) (F.newCall_enumerate_1 _) (fun obj => F.args_object_init_2 obj _) F.entry_enumerate_new
    (meets_enum1 B) ⟨h1, ?_⟩
  have hz : (s.heap.push o).objs.size = s.heap.objs.size + 1 := Heap.size_push ..
  show _ ∧ _
  rw [hz]
  have he : IsEnum ((s.heap.push o).push { cls := .type "enumerate", data := .fields #[.none, .bool false, .ref s.heap.objs.size, rawInt 0, .none, .none] }) (s.heap.objs.size + 1) s.heap.objs.size 0 .none := by
    have := Heap.get?_push_size (s.heap.push o) (o := { cls := .type "enumerate", data := .fields #[.none, .bool false, .ref s.heap.objs.size, rawInt 0, .none, .none] }) rfl
    rw [hz] at this; exact this
  refine ⟨⟨_, he, rfl⟩, h _ he (Heap.get?_push_of_some _ (Heap.get?_push_size _ B.free)) (by rw [Heap.size_push, hz]) fun b o x => Heap.get?_push_of_some _ (Heap.get?_push_of_some _ x)⟩

/-- enumerate of a tuple -/
def IteT (K : PySem.W.Frag) (a : Addr) : It :=
  ⟨fun i H => ∃ (xs : List V) (x : V), SqT K H a xs ∧ xs[i]? = some x, fun i H v H' => ∃ T x, v = .ref T ∧ H T = none ∧ H' = upd H T (.tup [.int (i : Nat), x]) ∧ ∀ xs, SqT K H a xs → xs[i]? = some x, fun i H => ∃ xs : List V, SqT K H a xs ∧ xs.length = i⟩
theorem turn_enumT {P : Program} {w : World} {K : PySem.W.Frag} {elts : List Expr} {kk : Nat} {tpos : Pos} (a e it : Addr) (ts : Array Value) (ha : a ≠ it) (hea : e ≠ a) :
    Turn P w K (.Tuple elts kk tpos) (IteT K a) [e, it] e (fun i h => (∃ old, IsEnum h e it ((i : Nat) : Int) old) ∧ h.IsTupleIter it a i ∧ e ≠ it) where
  mem := by simp
  obj := fun i h st b hb => by
    obtain ⟨⟨old, he⟩, ⟨o, ho, hc, hd⟩, _⟩ := st
    have e' : b = e ∨ b = it := by simpa using hb
    rcases e' with z | z
    · rw [z]; exact ⟨_, he, fun v q => nomatch q⟩
    · rw [z]; exact ⟨o, ho, fun v q => by rw [hd] at q; cases q⟩
  keep := fun i h h' st k => let ⟨⟨old, he⟩, hi, hne⟩ := st; ⟨⟨old, k e (by simp) _ he⟩, hi.at fun o q => k it (by simp) o q, hne⟩
  item := by
    intro X hP hw hK hc i pins s σ H E I hf st hg
    subst hP hw hK
    obtain ⟨⟨old, he⟩, hit, hne⟩ := st
    obtain ⟨xs, x, hq, hx⟩ := hg
    obtain ⟨its, rv, p, hz⟩ := I.tuple hq
    obtain ⟨u, hu, ru⟩ := rv.get hx
    have hel : e < s.heap.objs.size := Heap.lt_size he
    have hil : it < s.heap.objs.size := by obtain ⟨_, q, _⟩ := hit; exact Heap.lt_size q
    have ht : s.heap.IsTuple a its.toArray := p
    have hlt : i < its.toArray.size := by
      have := (List.getElem?_eq_some_iff.mp hu).1
      simpa using this
    refine wpAny_pyNext_enum_itemD (Draws.tuple (by exact I.ok.hd hc) it a ha its.toArray) he ⟨hit, ht⟩ hlt hne (by simp [hne, hea]) fun u' h' tk hu' ho hst' hT hsz hk => ?_
    have eu : u' = u := by
      have h1 : its.toArray[i]? = some u := by simpa using hu
      rw [h1] at hu'
      exact (Option.some.inj hu').symm
    subst eu
    refine ⟨_, rfl, wpAny_letOwnedTupleGo_enum (s := { s with heap := h', toks := tk + 1 }) ho fun h'' he' sb => ?_⟩
    have hT2 : h''.get? s.heap.objs.size = some { cls := .type "tuple", data := .seq #[.int i tk, u'] } := (sb.2 _ (Nat.ne_of_gt hel)).trans hT
    have new : ObjOk X.prog X.w (upd H s.heap.objs.size (.tup [.int (i : Nat), x])) h'' s.heap.objs.size (.tup [.int (i : Nat), x]) :=
      ⟨by show 2 ≤ sizeLine; decide, [.int i tk, u'], .cons ⟨_, rfl⟩ (.cons ru .nil), ⟨_, hT2, rfl, _, rfl⟩⟩
    have I1 : Inv X pins σ (upd H s.heap.objs.size (.tup [.int (i : Nat), x])) { s with heap := h'', toks := tk + 1 } :=
      I.turnedNew (ch := [e, it]) (fun b ob hb q => (sb.2 b (fun z => hb (by simp [z]))).trans (hk b ob (fun z => hb (by simp [z])) (fun z => hb (by simp [z])) q)) hf (Nat.le_refl _) new
    refine ⟨.ref s.heap.objs.size, _, I1, rfl, ⟨_, x, rfl, I.hok.fresh (Nat.le_refl _), rfl, fun ys hy => by rw [I.tuple_inj hy hq]; exact hx⟩, ⟨⟨u', ?_⟩, hst'.1.at fun o q => (sb.2 it (Ne.symm hne)).trans q, hne⟩, fun b hb => ?_⟩
    · have e1 : ((i + 1 : Nat) : Int) = (i : Int) + 1 := by omega
      rw [e1]; exact he'
    · have hb' : b < s.heap.objs.size := by
        have e' : b = e ∨ b = it := by simpa using hb
        rcases e' with z | z
        · rw [z]; exact hel
        · rw [z]; exact hil
      rw [upd_ne (Nat.ne_of_lt hb')]
      exact (hf b hb).1
  done := by
    intro X hP hw hK hc i pins s σ H E I hf st hg
    subst hP hw hK
    obtain ⟨⟨old, he⟩, hit, hne⟩ := st
    obtain ⟨xs, hq, hx⟩ := hg
    obtain ⟨its, rv, p, hz⟩ := I.tuple hq
    obtain ⟨f0, f1, f2, f3, f4, f5⟩ := hf it (by simp)
    have hl := rv.length
    have ht : s.heap.IsTuple a its.toArray := p
    have hsz : i = its.toArray.size := by simp; omega
    subst hsz
    exact wpAny_pyNext_enum_endD (Draws.tuple (by exact I.ok.hd hc) it a ha its.toArray) he ⟨hit, ht⟩ fun h' eb => ⟨rfl, I.turned (t' := s.toks) (fun b o hb q => eb b o hb q) f0 f1 f3 f4 f5⟩
  self := fun A i s Q E st h => let ⟨⟨_, he⟩, _⟩ := st; wpAny_pyIter_enum he h

/-! ### a list or a tuple -/
section
variable {X : Cx} {tg : Expr}
def iSeq (K : PySem.W.Frag) (tl : TE) : TI := fun σ H R => tl σ H fun x H1 => ∃ a, x = .ref a ∧ ((∃ xs, SqL K H1 a xs ∧ R (Itl K a) H1) ∨ (∃ xs, SqT K H1 a xs ∧ R (Itt K a) H1))
theorem pi_seq {l : Expr} {tl : TE} (hl : PE X l tl) : PI X tg l (iSeq X.K tl) := by
  refine ⟨fun pins s σ H R I h => ?_⟩
  refine thn (hl.run pins s σ H _ I h) fun v s1 ⟨x, H1, I1, r1, q1⟩ => ?_
  obtain ⟨a, e, q⟩ := q1
  subst e
  cases r1
  rcases q with ⟨xs, hq, q⟩ | ⟨xs, hq, q⟩
  · obtain ⟨its, rv, p, hz⟩ := I1.list hq
    refine wpAny_pyIter_list p.isList ?_
    refine ⟨s1.heap.objs.size, [s1.heap.objs.size], _, _, H1, rfl, I1.kept (t' := s1.toks) fun b o e => Heap.get?_push_of_some _ e, turn_list a _, ⟨_, Heap.get?_push_size _ rfl, rfl, rfl⟩, fun b hb => ?_, q⟩
    have e : b = s1.heap.objs.size := by simpa using hb
    subst e
    exact I1.fpOk (Nat.le_refl _) (I1.hok.fresh (Nat.le_refl _))
  · obtain ⟨its, rv, p, hz⟩ := I1.tuple hq
    refine wpAny_pyIter_tuple (show s1.heap.IsTuple a its.toArray from p) ?_
    refine ⟨s1.heap.objs.size, [s1.heap.objs.size], _, _, H1, rfl, I1.kept (t' := s1.toks) fun b o e => Heap.get?_push_of_some _ e, turn_tuple a _, ⟨_, Heap.get?_push_size _ rfl, rfl, rfl⟩, fun b hb => ?_, q⟩
    have e : b = s1.heap.objs.size := by simpa using hb
    subst e
    exact I1.fpOk (Nat.le_refl _) (I1.hok.fresh (Nat.le_refl _))
def iEnumS (K : PySem.W.Frag) (ta : TA) : TI := fun σ H R => ta σ H fun vs H1 => ∃ a, vs = [.ref a] ∧ ((∃ xs, SqL K H1 a xs ∧ R (Ite K a) H1) ∨ (∃ xs, SqT K H1 a xs ∧ R (IteT K a) H1))
theorem pi_enumS {e : Expr} {ta : TA} {p pos tpos : Pos} {elts : List Expr} {kk : Nat} (hg : Gl X "enumerate") (hm : X.mg "enumerate" = none) (ha : PA X [e] ta) (hs : starEach [e] X.env = [(false, eval e X.env)] := by rfl) :
    PI X (.Tuple elts kk tpos) (.Call (.Name "enumerate" p) [e] [] pos) (iEnumS X.K ta) := by
  refine ⟨fun pins s σ H R I h => ?_⟩
  refine Call_ (ld_blt I hg hm boot_enumerate (PyProof.Rows.callWith_type1 (thn (ha.run pos pins s σ H _ I h) fun us s1 ⟨vs, H1, I1, r1, q1⟩ => ?_) hs rfl))
  obtain ⟨a, ex, q⟩ := q1
  subst ex
  cases r1 with
  | cons r rr =>
    cases rr
    cases r
    have dj : ∀ {b : Addr}, b ∈ [s1.heap.objs.size + 1, s1.heap.objs.size] → s1.heap.objs.size ≤ b := fun {b} hb => by
      have e' : b = s1.heap.objs.size + 1 ∨ b = s1.heap.objs.size := by simpa using hb
      rcases e' with z | z
      · rw [z]; exact Nat.le_add_right _ _
      · rw [z]; exact Nat.le_refl _
    rcases q with ⟨xs, hq, q⟩ | ⟨xs, hq, q⟩
    · obtain ⟨its, rv, p', hz⟩ := I1.list hq
      refine call_enumerate_list p'.isList fun h' he hit hsz hk => wpAny_pyIter_enum he ?_
      have I2 : Inv X pins σ H1 { s1 with heap := h' } := I1.kept (t' := s1.toks) hk
      exact ⟨s1.heap.objs.size + 1, [s1.heap.objs.size + 1, s1.heap.objs.size], _, _, H1, rfl, I2, turn_enum a (s1.heap.objs.size + 1) s1.heap.objs.size, ⟨⟨.none, he⟩, hit, Nat.succ_ne_self _⟩, fun b hb => I1.fpOk (dj hb) (I1.hok.fresh (dj hb)), q⟩
    · obtain ⟨its, rv, p', hz⟩ := I1.tuple hq
      have hta : s1.heap.IsTuple a its.toArray := p'
      have hlt : a < s1.heap.objs.size := by obtain ⟨_, z, _⟩ := hta; exact Heap.lt_size z
      refine enum1 (begins_tuple a its.toArray) hta fun h' he hit hsz hk => wpAny_pyIter_enum he ?_
      have I2 : Inv X pins σ H1 { s1 with heap := h' } := I1.kept (t' := s1.toks) hk
      exact ⟨s1.heap.objs.size + 1, [s1.heap.objs.size + 1, s1.heap.objs.size], _, _, H1, rfl, I2, turn_enumT a (s1.heap.objs.size + 1) s1.heap.objs.size #[] (Nat.ne_of_lt hlt) (Nat.ne_of_gt (Nat.lt_succ_of_lt hlt)), ⟨⟨.none, he⟩, ⟨_, hit, rfl, rfl⟩, Nat.succ_ne_self _⟩, fun b hb => I1.fpOk (dj hb) (I1.hok.fresh (dj hb)), q⟩
end
end DS
/-! DS5: walks, for, comprehensions -/
namespace DS
open PySem L2 PySem.Spec PyProof.Rows
variable {K : PySem.W.Frag} {mg : Str → Option Value}

/-- what is walked: the items, and what must stay so -/
structure Wl where
  ds : List D
  ok : S → Prop
structure Wk (K : PySem.W.Frag) (mg : Str → Option Value) (w : W) (wl : Wl) (J : It) : Prop where
  go : ∀ w' s H i, w.le0 w' → Sto K mg w' s H → wl.ok s → i < wl.ds.length → J.go i H
  yl : ∀ w' s H i x H' d, w.le0 w' → Sto K mg w' s H → wl.ok s → wl.ds[i]? = some d → J.yld i H x H' → ∃ w'', w'.le w'' ∧ Sto K mg w'' s H' ∧ RD K mg w'' d x
  st : ∀ w' s H, w.le0 w' → Sto K mg w' s H → wl.ok s → J.stop wl.ds.length H
open Classical in
noncomputable def chk {α : Type} (ok : S → Prop) (m : M α) : M α := fun s => if ok s then m s else none
theorem chk_true {α : Type} (m : M α) : chk (fun _ => True) m = m := by
  funext s
  unfold chk
  rw [if_pos trivial]
theorem Run.chk {α β : Type} {R : W → α → β → Prop} {Wx : XK} {m : M α} {ok : S → Prop} {w : W} {s : S} {σ : L2.St} {H : Hp} {Q : β → Hp → Prop} (h : Run K mg R Wx (DS.chk ok m) w s σ H Q) : ok s ∧ Run K mg R Wx m w s σ H Q := by
  obtain ⟨st, r, s', e, p⟩ := h
  unfold DS.chk at e
  by_cases c : ok s
  · rw [if_pos c] at e
    exact ⟨c, st, r, s', e, p⟩
  · rw [if_neg c] at e
    cases e
theorem Run.move {α β : Type} {R : W → α → β → Prop} {Wx : XK} {m : M α} {w w' : W} {s : S} {σ σ' : L2.St} {H H' : Hp} {Q : β → Hp → Prop} (h : Run K mg R Wx m w s σ H Q) (le : w.le w') (st : Sto K mg w' s H') : Run K mg R Wx m w' s σ' H' Q := by
  obtain ⟨_, r, s', e, p⟩ := h
  refine ⟨st, r, s', e, ?_⟩
  cases r with
  | ok a => exact fun w2 b H2 le2 => p w2 b H2 (le.trans le2)
  | error x => exact fun w2 c d H2 le2 => p w2 c d H2 (le.trans le2)

/-! ### for -/
def loopS (k : En → M Fl) : Fl → M Fl
  | .nx ρ => k ρ
  | .ct ρ => k ρ
  | .bk ρ => ret (.nx ρ)
  | .rt d => ret (.rt d)
noncomputable def forW (ok : S → Prop) (b : D → En → M Fl) : List D → En → M Fl
  | [], ρ => chk ok (ret (.nx ρ))
  | d :: ds, ρ => chk ok (bnd (b d ρ) (loopS (forW ok b ds)))
noncomputable def dFor (wi : En → M Wl) (g : D → En → M En) (b : En → M Fl) : En → M Fl := fun ρ => bnd (wi ρ) fun wl => forW wl.ok (fun d ρ => bnd (g d ρ) b) wl.ds ρ
def rIt (X : Cx) (Wx : XK) (f : En → M Wl) : TI := fun σ H R => rd X.K X.mg (Wk X.K X.mg) Wx f σ H R
abbrev PDI (X : Cx) (Wx : XK) (tg iter : Expr) (f : En → M Wl) : Prop := PI X tg iter (rIt X Wx f)
theorem pi_mono {X : Cx} {tg e : Expr} {t t' : TI} (h : PI X tg e t) (i : ∀ σ H R, t' σ H R → t σ H R) : PI X tg e t' := ⟨fun pins s σ H R I q => h.run pins s σ H R I (i σ H R q)⟩
theorem drop_at {α : Type} {l : List α} {i : Nat} (h : i < l.length) : l.drop i = l[i] :: l.drop (i + 1) := (List.getElem_cons_drop h).symm
section
variable {X : Cx} {Wx : XK} {tg iter : Expr} {body : List Stmt} {pos : Pos} {wi : En → M Wl} {g : D → En → M En} {ts : List Nat} {b : En → M Fl}
theorem pds_for (hp : PassesOwn (model X.prog X.w) X.A X.env X.xe) (hc : X.calm = true) (hi : PDI X Wx tg iter wi) (hg : PDG X Wx tg ts g) (hb : PDSs X Wx body b)
    (hs : ∀ x, foldedSetIterable iter X.env x = pure x := by intro _; rfl) : PDS X Wx (.For tg iter body [] pos) (dFor wi g b) :=
  ps_mono (ps_for hp hc hi hg hb hs) fun D σ H ⟨w, ρ, s, env, run⟩ => ⟨w, ρ, s, env, run.bind fun w1 wl J H1 s1 le1 wk run1 => by
    let inv : Nat → L2.St → Hp → Prop := fun i σ H => ∃ w' ρ s, w1.le w' ∧ EnR X.K X.mg w' ρ σ ∧ Run X.K X.mg (RFl X.K X.mg) Wx (forW wl.ok (fun d ρ => bnd (g d ρ) b) (wl.ds.drop i) ρ) w' s σ H (qD D)
    refine ⟨fun i m σ H => m = wl.ds.length - i ∧ i ≤ wl.ds.length ∧ inv i σ H, ⟨_, rfl, Nat.zero_le _, w1, ρ, s1, W.le.refl _, env.mono le1, run1⟩, ?_⟩
    rintro i m σ2 H2 ⟨rfl, hi, w2, ρ2, s2, le2, env2, run2⟩
    by_cases hlt : i < wl.ds.length
    · rw [drop_at hlt] at run2
      obtain ⟨hok, run3⟩ := Run.chk run2
      refine .inr ⟨wk.go w2 s2 H2 i le2.z run3.1 hok hlt, inv (i + 1), fun σ' H' p' => ⟨_, by omega, rfl, hlt, p'⟩, fun x H' y => ?_⟩
      obtain ⟨w3, le3, st3, rx⟩ := wk.yl w2 s2 H2 i x H' wl.ds[i] le2.z run3.1 hok (List.getElem?_eq_getElem hlt) y
      have run4 := run3.move (σ' := σ2) le3 st3
      rw [bnd_bnd] at run4
      refine ⟨w3, ρ2, s2, _, env2.mono le3, rx, Run.bind (R' := RFl X.K X.mg) run4 fun w4 ρ4 σ4 H4 s4 le4 r4 run5 => ⟨w4, ρ4, s4, r4.1, Run.bind (R' := RFl X.K X.mg) run5 fun w5 fl fv H5 s5 le5 r5 run6 => ?_⟩⟩
      have lew : w1.le w5 := ((le2.trans le3).trans le4).trans le5
      cases fl <;> cases fv <;> first
        | exact r5.elim
        | skip
      · exact ⟨w5, _, s5, lew, r5, run6⟩
      · exact Run.here (b := FlV.nx _) run6 r5
      · exact ⟨w5, _, s5, lew, r5, run6⟩
      · exact Run.here (b := FlV.rt _) run6 r5
    · have e : i = wl.ds.length := by omega
      subst e
      rw [List.drop_length] at run2
      obtain ⟨hok, run3⟩ := Run.chk run2
      exact .inl ⟨wk.st w2 s2 H2 le2.z run3.1 hok, Run.here (b := FlV.nx _) run3 env2⟩⟩
end

/-! ### the forms of walks -/
def oWalk : D → M Wl
  | .tup ds => ret ⟨ds, fun _ => True⟩
  | .gtp ds => ret ⟨ds, fun _ => True⟩
  | .lst ds => ret ⟨ds, fun _ => True⟩
  | .scr ds => ret ⟨ds, fun _ => True⟩
  | .ref a => bnd (look a) fun d => match d with
    | .lst ds => ret ⟨ds, fun s => s.objs[a]? = some (.lst ds)⟩
    | _ => stuck
  | _ => stuck
theorem wk_list {w : W} {ds : List D} {ok : S → Prop} {a : Addr} (h : ∀ w' s H, w.le0 w' → Sto K mg w' s H → ok s → ∃ vs, SqL K H a vs ∧ RL K mg w' ds vs) : Wk K mg w ⟨ds, ok⟩ (Itl K a) := by
  refine ⟨fun w' s H i le st o hi => ?_, fun w' s H i x H' d le st o hd y => ?_, fun w' s H le st o => ?_⟩
  · obtain ⟨vs, q, r⟩ := h w' s H le st o
    have hi : i < ds.length := hi
    exact ⟨vs, vs[i]'(by rw [← r.length]; exact hi), q, List.getElem?_eq_getElem _⟩
  · obtain ⟨vs, q, r⟩ := h w' s H le st o
    obtain ⟨e, y⟩ := y
    subst e
    obtain ⟨v, hv, rv⟩ := r.get hd
    have := y vs q
    rw [hv] at this
    cases this
    exact ⟨w', W.le.refl _, st, rv⟩
  · obtain ⟨vs, q, r⟩ := h w' s H le st o
    exact ⟨vs, q, by rw [← r.length]; exact Nat.le_refl _⟩
theorem wk_tup {w : W} {ds : List D} {ok : S → Prop} {a : Addr} (h : ∀ w' s H, w.le0 w' → Sto K mg w' s H → ok s → ∃ vs, SqT K H a vs ∧ RL K mg w' ds vs) : Wk K mg w ⟨ds, ok⟩ (Itt K a) := by
  refine ⟨fun w' s H i le st o hi => ?_, fun w' s H i x H' d le st o hd y => ?_, fun w' s H le st o => ?_⟩
  · obtain ⟨vs, q, r⟩ := h w' s H le st o
    have hi : i < ds.length := hi
    exact ⟨vs, vs[i]'(by rw [← r.length]; exact hi), q, List.getElem?_eq_getElem _⟩
  · obtain ⟨vs, q, r⟩ := h w' s H le st o
    obtain ⟨e, y⟩ := y
    subst e
    obtain ⟨v, hv, rv⟩ := r.get hd
    have := y vs q
    rw [hv] at this
    cases this
    exact ⟨w', W.le.refl _, st, rv⟩
  · obtain ⟨vs, q, r⟩ := h w' s H le st o
    exact ⟨vs, q, by rw [← r.length]; exact Nat.le_refl _⟩
def enumD : Nat → List D → List D
  | _, [] => []
  | n, d :: ds => .tup [.int (n : Int), d] :: enumD (n + 1) ds
theorem enumD_length : ∀ (n : Nat) (ds : List D), (enumD n ds).length = ds.length
  | _, [] => rfl
  | n, d :: ds => by rw [enumD, List.length_cons, List.length_cons, enumD_length (n + 1) ds]
theorem enumD_get : ∀ (n : Nat) (ds : List D) (i : Nat), (enumD n ds)[i]? = ds[i]?.map fun d => .tup [.int ((n + i : Nat) : Int), d]
  | _, [], i => by simp [enumD]
  | n, d :: ds, 0 => by simp [enumD]
  | n, d :: ds, i + 1 => by
    rw [enumD, List.getElem?_cons_succ, List.getElem?_cons_succ, enumD_get (n + 1) ds i, show n + 1 + i = n + (i + 1) by omega]
theorem wk_enum {w : W} {ds : List D} {ok : S → Prop} {a : Addr} (h : ∀ w' s H, w.le0 w' → Sto K mg w' s H → ok s → ∃ vs, SqL K H a vs ∧ RL K mg w' ds vs) : Wk K mg w ⟨enumD 0 ds, ok⟩ (Ite K a) := by
  refine ⟨fun w' s H i le st o hi => ?_, fun w' s H i x H' d le st o hd y => ?_, fun w' s H le st o => ?_⟩
  · obtain ⟨vs, q, r⟩ := h w' s H le st o
    have hi : i < (enumD 0 ds).length := hi
    rw [enumD_length] at hi
    exact ⟨vs, vs[i]'(by rw [← r.length]; exact hi), q, List.getElem?_eq_getElem _⟩
  · obtain ⟨vs, q, r⟩ := h w' s H le st o
    obtain ⟨T, y, rfl, hT, rfl, hy⟩ := y
    have hd : (enumD 0 ds)[i]? = some d := hd
    rw [enumD_get] at hd
    obtain ⟨d0, h1, h2⟩ := Option.map_eq_some_iff.mp hd
    obtain ⟨v, hv, rv⟩ := r.get h1
    have := hy vs q
    rw [hv] at this
    cases this
    obtain ⟨st2, le2⟩ := st.froz (o := .tup [.int (i : Nat), y]) hT
    refine ⟨_, le2, st2, ?_⟩
    rw [← h2, Nat.zero_add]
    exact .tup upd_same (.cons (.int _) (.cons (rv.mono le2) .nil))
  · obtain ⟨vs, q, r⟩ := h w' s H le st o
    exact ⟨vs, q, by show vs.length ≤ (enumD 0 ds).length; rw [enumD_length, ← r.length]; exact Nat.le_refl _⟩
theorem wk_enumT {w : W} {ds : List D} {ok : S → Prop} {a : Addr} (h : ∀ w' s H, w.le0 w' → Sto K mg w' s H → ok s → ∃ vs, SqT K H a vs ∧ RL K mg w' ds vs) : Wk K mg w ⟨enumD 0 ds, ok⟩ (IteT K a) := by
  refine ⟨fun w' s H i le st o hi => ?_, fun w' s H i x H' d le st o hd y => ?_, fun w' s H le st o => ?_⟩
  · obtain ⟨vs, q, r⟩ := h w' s H le st o
    have hi : i < (enumD 0 ds).length := hi
    rw [enumD_length] at hi
    exact ⟨vs, vs[i]'(by rw [← r.length]; exact hi), q, List.getElem?_eq_getElem _⟩
  · obtain ⟨vs, q, r⟩ := h w' s H le st o
    obtain ⟨T, y, rfl, hT, rfl, hy⟩ := y
    have hd : (enumD 0 ds)[i]? = some d := hd
    rw [enumD_get] at hd
    obtain ⟨d0, h1, h2⟩ := Option.map_eq_some_iff.mp hd
    obtain ⟨v, hv, rv⟩ := r.get h1
    have := hy vs q
    rw [hv] at this
    cases this
    obtain ⟨st2, le2⟩ := st.froz (o := .tup [.int (i : Nat), y]) hT
    refine ⟨_, le2, st2, ?_⟩
    rw [← h2, Nat.zero_add]
    exact .tup upd_same (.cons (.int _) (.cons (rv.mono le2) .nil))
  · obtain ⟨vs, q, r⟩ := h w' s H le st o
    exact ⟨vs, q, by show vs.length = (enumD 0 ds).length; rw [enumD_length, ← r.length]⟩
def rangeD (lo : Int) (n : Nat) : List D := (List.range n).map fun i => .int (lo + (i : Nat))
theorem wk_range {w : W} {lo : Int} {n : Nat} : Wk K mg w ⟨rangeD lo n, fun _ => True⟩ (Itr lo n) := by
  have hl : (rangeD lo n).length = n := by simp [rangeD]
  refine ⟨fun w' s H i le st o hi => ?_, fun w' s H i x H' d le st o hd y => ?_, fun w' s H le st o => ?_⟩
  · have hi : i < (rangeD lo n).length := hi
    rw [hl] at hi
    exact hi
  · obtain ⟨rfl, rfl⟩ := y
    have hd : (rangeD lo n)[i]? = some d := hd
    unfold rangeD at hd
    rw [List.getElem?_map] at hd
    obtain ⟨j, h1, h2⟩ := Option.map_eq_some_iff.mp hd
    have : j = i := by
      rw [List.getElem?_range] at h1
      · exact (Option.some.inj h1).symm
      · have := (List.getElem?_eq_some_iff.mp h1).1
        simpa using this
    subst this
    subst h2
    exact ⟨w', W.le.refl _, st, .int _⟩
  · show n ≤ (rangeD lo n).length
    rw [hl]
    exact Nat.le_refl _
theorem walk_of {w : W} {s : S} {σ : L2.St} {H : Hp} {α β : Type} {R : W → α → β → Prop} {Wx : XK} {Q : β → Hp → Prop} {d : D} {v : V} {m : Wl → M α} (r : RD K mg w d v) (run : Run K mg R Wx (bnd (oWalk d) m) w s σ H Q) :
    ∃ a wl, v = .ref a ∧ Run K mg R Wx (m wl) w s σ H Q ∧ (((∃ xs, SqL K H a xs) ∧ ∀ w' s H, w.le0 w' → Sto K mg w' s H → wl.ok s → ∃ vs, SqL K H a vs ∧ RL K mg w' wl.ds vs) ∨ ((∃ xs, SqT K H a xs) ∧ ∀ w' s H, w.le0 w' → Sto K mg w' s H → wl.ok s → ∃ vs, SqT K H a vs ∧ RL K mg w' wl.ds vs)) := by
  cases r <;> first
    | exact run.no
    | skip
  · next a ds vs q r => exact ⟨_, ⟨ds, fun _ => True⟩, rfl, run, .inr ⟨⟨vs, SqT.of (run.1.ex _ _ q)⟩, fun w' s H le st _ => ⟨vs, SqT.of (st.ex _ _ (le.sm _ _ q)), r.mono0 le⟩⟩⟩
  · next a ds vs q r => exact ⟨_, ⟨ds, fun _ => True⟩, rfl, run, .inr ⟨⟨vs, same_t run.1.ex q⟩, fun w' s H le st _ => ⟨vs, same_t st.ex (same_t le.sm q), r.mono0 le⟩⟩⟩
  · next a ds vs q r => exact ⟨_, ⟨ds, fun _ => True⟩, rfl, run, .inl ⟨⟨vs, SqL.of (run.1.ex _ _ q)⟩, fun w' s H le st _ => ⟨vs, SqL.of (st.ex _ _ (le.sm _ _ q)), r.mono0 le⟩⟩⟩
  · next a ds vs q r => exact ⟨_, ⟨ds, fun _ => True⟩, rfl, run, .inl ⟨⟨vs, run.1.ex.seq q⟩, fun w' s H le st _ => ⟨vs, st.ex.seq (le.sm.seq q), r.mono0 le⟩⟩⟩
  · next a p q =>
    have run : Run K mg R Wx (bnd (bnd (look a) fun d => match d with | .lst ds => ret (⟨ds, fun s => s.objs[a]? = some (.lst ds)⟩ : Wl) | _ => stuck) m) w s σ H Q := run
    rw [bnd_bnd] at run
    obtain ⟨d, o, e1, e2, r, run⟩ := Run.look q run
    cases d <;> first
      | exact run.no
      | skip
    next ds =>
      obtain ⟨vs, rfl, r⟩ := r.lst_of
      refine ⟨_, ⟨ds, fun s => s.objs[a]? = some (.lst ds)⟩, rfl, run, .inl ⟨⟨vs, SqL.of e2⟩, fun w' s' H' le st o => ?_⟩⟩
      obtain ⟨u, h1, h2⟩ := st.obj a _ _ o (pre_get le.pf q)
      obtain ⟨us, rfl, h2⟩ := h2.lst_of
      exact ⟨us, SqL.of h1, h2⟩
section
variable {X : Cx} {Wx : XK} {tg l a b : Expr} {es : List Expr} {f fa fb : En → M D} {p pos tpos : Pos} {kk : Nat} {elts : List Expr}
def dItS (f : En → M D) : En → M Wl := fun ρ => bnd (f ρ) oWalk
theorem pdi_seq (hl : PD X Wx l f) : PDI X Wx tg l (dItS f) :=
  pi_mono (pi_seq hl) fun σ H R ⟨w, ρ, s, env, run⟩ => ⟨w, ρ, s, env, run.bind fun w1 x v1 H1 s1 le1 r1 run1 => by
    have run2 : Run X.K X.mg (Wk X.K X.mg) Wx (bnd (oWalk x) ret) w1 s1 σ H1 R := by
      obtain ⟨st, rr, s', e, p⟩ := run1
      refine ⟨st, rr, s', ?_, p⟩
      unfold bnd
      rw [e]
      cases rr <;> rfl
    obtain ⟨a, wl, rfl, run3, ⟨h1, h2⟩ | ⟨h1, h2⟩⟩ := walk_of r1 run2
    · exact ⟨a, rfl, .inl (let ⟨xs, hx⟩ := h1; ⟨xs, hx, Run.here run3 (wk_list h2)⟩)⟩
    · exact ⟨a, rfl, .inr (let ⟨xs, hx⟩ := h1; ⟨xs, hx, Run.here run3 (wk_tup h2)⟩)⟩⟩
def enumW (wl : Wl) : Wl := ⟨enumD 0 wl.ds, wl.ok⟩
def dItE (f : En → M D) : En → M Wl := fun ρ => bnd (f ρ) fun d => bnd (oWalk d) fun wl => ret (enumW wl)
theorem pdi_enum (hm : X.mg "enumerate" = none) (ha : PD X Wx a f) (hg : Gl X "enumerate" := by rfl) (hs : starEach [a] X.env = [(false, eval a X.env)] := by rfl) :
    PDI X Wx (.Tuple elts kk tpos) (.Call (.Name "enumerate" p) [a] [] pos) (dItE f) :=
  pi_mono (pi_enumS hg hm (pa_cons ha pa_nil hs) hs) fun σ H R ⟨w, ρ, s, env, run⟩ => ⟨w, ρ, s, env, run.bind fun w1 x v1 H1 s1 le1 r1 run1 => by
    obtain ⟨a, wl, rfl, run3, ⟨h1, h2⟩ | ⟨h1, h2⟩⟩ := walk_of r1 run1
    · exact ⟨a, rfl, .inl (let ⟨xs, hx⟩ := h1; ⟨xs, hx, Run.here run3 (wk_enum h2)⟩)⟩
    · exact ⟨a, rfl, .inr (let ⟨xs, hx⟩ := h1; ⟨xs, hx, Run.here run3 (wk_enumT h2)⟩)⟩⟩
def oRng1 : D → M Wl
  | .int j => if -(2 ^ 62) ≤ j ∧ j < 2 ^ 62 then ret ⟨rangeD 0 j.toNat, fun _ => True⟩ else stuck
  | _ => stuck
def oRng2 : D → D → M Wl
  | .int i, .int j => if -(2 ^ 62) ≤ i ∧ i < 2 ^ 62 ∧ -(2 ^ 62) ≤ j ∧ j < 2 ^ 62 then ret ⟨rangeD i (j - i).toNat, fun _ => True⟩ else stuck
  | _, _ => stuck
def dRng1 (f : En → M D) : En → M Wl := fun ρ => bnd (f ρ) oRng1
def dRng2 (f g : En → M D) : En → M Wl := fun ρ => bnd (f ρ) fun x => bnd (g ρ) fun y => oRng2 x y
theorem pdi_range1 (hm : X.mg "range" = none) (ha : PD X Wx a f) (hg : Gl X "range" := by rfl) (hs : starEach [a] X.env = [(false, eval a X.env)] := by rfl) : PDI X Wx tg (.Call (.Name "range" p) [a] [] pos) (dRng1 f) :=
  pi_mono (pi_range1 hg hm (pa_cons ha pa_nil hs) hs) fun σ H R ⟨w, ρ, s, env, run⟩ => ⟨w, ρ, s, env, run.bind fun w1 x v1 H1 s1 le1 r1 run1 => by
    cases r1 <;> first
      | exact run1.no
      | skip
    next j =>
      obtain ⟨h, run1⟩ := Run.guard (C := -(2 ^ 62) ≤ j ∧ j < 2 ^ 62) run1
      exact ⟨j, rfl, h.1, h.2, Run.here run1 wk_range⟩⟩
theorem pdi_range2 (hm : X.mg "range" = none) (ha : PD X Wx a fa) (hb : PD X Wx b fb) (hg : Gl X "range" := by rfl) (hs : starEach [a, b] X.env = [(false, eval a X.env), (false, eval b X.env)] := by rfl) (hs2 : starEach [b] X.env = [(false, eval b X.env)] := by rfl) :
    PDI X Wx tg (.Call (.Name "range" p) [a, b] [] pos) (dRng2 fa fb) :=
  pi_mono (pi_range2 hg hm (pa_cons ha (pa_cons hb pa_nil hs2) (by rw [hs2]; exact hs)) hs hs2) fun σ H R ⟨w, ρ, s, env, run⟩ => ⟨w, ρ, s, env, run.bind fun w1 x v1 H1 s1 le1 r1 run1 => ⟨w1, ρ, s1, env.mono le1, run1.bind fun w2 y v2 H2 s2 le2 r2 run2 => by
    cases r1 <;> cases r2 <;> first
      | exact run2.no
      | skip
    next i j =>
      obtain ⟨h, run2⟩ := Run.guard (C := -(2 ^ 62) ≤ i ∧ i < 2 ^ 62 ∧ -(2 ^ 62) ≤ j ∧ j < 2 ^ 62) run2
      exact ⟨i, j, rfl, h, Run.here run2 wk_range⟩⟩⟩
end
end DS
/-! DS6: comprehensions -/
namespace DS
open PySem L2 PySem.Spec PyProof.Rows
variable {K : PySem.W.Frag} {mg : Str → Option Value}

abbrev WF : XK := fun _ _ _ => False
def noEr {α : Type} (m : M α) : M α := fun s => match m s with
  | some (.ok a, s') => some (.ok a, s')
  | _ => none
@[simp] theorem noEr_ret {α : Type} (a : α) : noEr (ret a) = ret a := rfl
@[simp] theorem noEr_stuck {α : Type} : noEr (stuck : M α) = stuck := rfl

/-- a run that holds the thing at D, which grows -/
def RunC (K : PySem.W.Frag) (mg : Str → Option Value) (D : Addr) (hs : List (Addr × HO)) (m : M DS.D) (w : W) (s : S) (H : Hp) (N : Hp → Prop) : Prop :=
  Sto K mg w s H ∧ ∃ a s', m s = some (.ok a, s') ∧ ∀ w' o H', w.le0 w' → w'.hold = (D, o) :: hs → RO K mg w' a o → Sto K mg w' s' H' → N H'
section
variable {Dd : Addr} {hs : List (Addr × HO)} {w : W} {s : S} {H : Hp} {N : Hp → Prop}
theorem RunC.bindE {α β : Type} {R : W → α → β → Prop} {m : M α} {g : α → M DS.D} {σ : L2.St} {Q1 : β → Hp → Prop} (h : RunC K mg Dd hs (bnd m g) w s H N) (k : ∀ w1 a b H1 s1, w.le w1 → R w1 a b → RunC K mg Dd hs (g a) w1 s1 H1 N → Q1 b H1) : Run K mg R WF m w s σ H Q1 := by
  obtain ⟨st, a, s', e, p⟩ := h
  unfold bnd at e
  refine ⟨st, ?_⟩
  cases hm : m s with
  | none => rw [hm] at e; cases e
  | some q =>
    obtain ⟨r1, s1⟩ := q
    rw [hm] at e
    cases r1 with
    | error x => cases e
    | ok a1 => exact ⟨_, _, rfl, fun w1 b H1 le1 ra st1 => k w1 a1 b H1 s1 le1 ra ⟨st1, a, s', e, fun w2 o H2 le2 => p w2 o H2 (le1.z.trans le2)⟩⟩
theorem RunC.bindC {m : M DS.D} {g : DS.D → M DS.D} {N1 : Hp → Prop} (h : RunC K mg Dd hs (bnd m g) w s H N) (k : ∀ w1 a o H1 s1, w.le0 w1 → w1.hold = (Dd, o) :: hs → RO K mg w1 a o → RunC K mg Dd hs (g a) w1 s1 H1 N → N1 H1) : RunC K mg Dd hs m w s H N1 := by
  obtain ⟨st, a, s', e, p⟩ := h
  unfold bnd at e
  refine ⟨st, ?_⟩
  cases hm : m s with
  | none => rw [hm] at e; cases e
  | some q =>
    obtain ⟨r1, s1⟩ := q
    rw [hm] at e
    cases r1 with
    | error x => cases e
    | ok a1 => exact ⟨_, _, rfl, fun w1 o H1 le1 hh ra st1 => k w1 a1 o H1 s1 le1 hh ra ⟨st1, a, s', e, fun w2 o H2 le2 => p w2 o H2 (le1.trans le2)⟩⟩
theorem RunC.no {P : Prop} (h : RunC K mg Dd hs stuck w s H N) : P := by
  obtain ⟨_, _, _, e, _⟩ := h
  cases e
theorem RunC.get {a : DS.D} (h : RunC K mg Dd hs (ret a) w s H N) {w' : W} {o : HO} {H' : Hp} (le : w.le0 w') (hh : w'.hold = (Dd, o) :: hs) (r : RO K mg w' a o) (st : Sto K mg w' s H') : N H' := by
  obtain ⟨_, _, _, e, p⟩ := h
  cases e
  exact p w' o H' le hh r st
theorem RunC.chk {m : M DS.D} {ok : S → Prop} (h : RunC K mg Dd hs (DS.chk ok m) w s H N) : ok s ∧ RunC K mg Dd hs m w s H N := by
  obtain ⟨st, r, s', e, p⟩ := h
  unfold DS.chk at e
  by_cases c : ok s
  · rw [if_pos c] at e
    exact ⟨c, st, r, s', e, p⟩
  · rw [if_neg c] at e
    cases e
theorem RunC.move {m : M DS.D} {w' : W} {H' : Hp} (h : RunC K mg Dd hs m w s H N) (le : w.le0 w') (st : Sto K mg w' s H') : RunC K mg Dd hs m w' s H' N := by
  obtain ⟨_, r, s', e, p⟩ := h
  exact ⟨st, r, s', e, fun w2 b H2 le2 => p w2 b H2 (le.trans le2)⟩
theorem RunC.guard {C : Prop} [Decidable C] {m : M DS.D} (h : RunC K mg Dd hs (if C then m else stuck) w s H N) : C ∧ RunC K mg Dd hs m w s H N := by
  by_cases c : C
  · rw [if_pos c] at h
    exact ⟨c, h⟩
  · rw [if_neg c] at h
    exact h.no
end

abbrev CB := En → DS.D → M DS.D
def emL (f : En → M D) : CB := fun ρ acc => bnd (f ρ) fun y => match acc with
  | .lst xs => if xs.length < CAP then ret (.lst (xs ++ [y])) else stuck
  | _ => stuck
noncomputable def cLoop (ok : S → Prop) (f : D → DS.D → M DS.D) : List D → DS.D → M DS.D
  | [], acc => chk ok (ret acc)
  | d :: ds, acc => chk ok (bnd (f d acc) (cLoop ok f ds))
def wipeD (ρ : En) : List Nat → En
  | [] => ρ
  | v :: vs => (wipeD ρ vs).set v none
noncomputable def cCl (wi : En → M Wl) (g : D → En → M En) (t : En → M Bool) (vs : List Nat) (k : CB) : CB := fun ρ acc => bnd (wi ρ) fun wl => cLoop wl.ok (fun d acc => bnd (g d (wipeD ρ vs)) fun ρ' => bnd (t ρ') fun c => if c = true then k ρ' acc else ret acc) wl.ds acc
noncomputable def dComp (acc : DS.D) (wi : En → M Wl) (g : D → En → M En) (t : En → M Bool) (vs : List Nat) (k : CB) : En → M D := fun ρ => bnd (wi ρ) fun wl => noEr (cLoop wl.ok (fun d acc => bnd (g d (wipeD ρ vs)) fun ρ' => bnd (t ρ') fun c => if c = true then k ρ' acc else ret acc) wl.ds acc)
def tTrue : En → M Bool := fun _ => ret true

theorem wipe_in {σ : L2.St} {i : Nat} : ∀ {vs : List Nat}, i ∈ vs → i < σ.length → (wipe σ vs)[i]? = some none
  | v :: vs, h, hl => by
    unfold wipe
    by_cases hv : v = i
    · subst hv
      rw [List.getElem?_set_self (by rw [wipe_length]; exact hl)]
    · rw [List.getElem?_set_ne hv]
      rcases List.mem_cons.mp h with h | h
      · exact absurd h.symm hv
      · exact wipe_in h hl
theorem wipe_eq {σ σ2 : L2.St} {vs ts : List Nat} (hl : σ2.length = (wipe σ vs).length) (h : ∀ i, i ∉ ts → σ2[i]? = (wipe σ vs)[i]?) (hs : ∀ i ∈ ts, i ∈ vs) : wipe σ2 vs = wipe σ vs := by
  have hl2 : σ2.length = σ.length := by rw [hl, wipe_length]
  apply List.ext_getElem?
  intro i
  by_cases hi : i ∈ vs
  · by_cases hlt : i < σ.length
    · rw [wipe_in hi hlt, wipe_in hi (by rw [hl2]; exact hlt)]
    · rw [List.getElem?_eq_none (by rw [wipe_length, hl2]; omega), List.getElem?_eq_none (by rw [wipe_length]; omega)]
  · rw [wipe_out hi]
    exact h i fun z => hi (hs i z)
theorem EnR.wipe {w : W} {ρ : En} {σ : L2.St} (e : EnR K mg w ρ σ) : ∀ vs : List Nat, EnR K mg w (wipeD ρ vs) (wipe σ vs)
  | [] => e
  | v :: vs => by
    have h := EnR.wipe e vs
    refine ⟨by simp [wipeD, L2.wipe, h.1], fun j d' q => ?_⟩
    unfold wipeD at q
    unfold L2.wipe
    by_cases hj : v = j
    · subst hj
      have hl : v < (wipeD ρ vs).length := by
        have := (List.getElem?_eq_some_iff.mp q).1
        simpa using this
      rw [List.getElem?_set_self hl] at q
      cases q
    · rw [List.getElem?_set_ne hj] at q ⊢
      exact h.2 j d' q
theorem ro_rd {w : W} {d : DS.D} {o : HO} {p : Addr} (r : RO K mg w d o) (h : w.F p = some o) : RD K mg w d (.ref p) := by
  cases d <;> cases o <;> first
    | (exact r.elim; done)
    | skip
  · exact .lst h r
  · exact .dT h r.1 r.2
  · exact .dK h r.1 r.2
  · rename_i o u
    cases u <;> first
      | (exact r.elim; done)
      | exact .lckT h r.1 r.2
  · rename_i o u
    cases u <;> first
      | (exact r.elim; done)
      | exact .lckK h r.1 r.2
  · exact .ins h r.1 r.2.1 r.2.2

def rTC (K : PySem.W.Frag) (mg : Str → Option Value) (Dd : Addr) (k : CB) : TC := fun σ H N => ∃ w ρ s d o hs, w.hold = (Dd, o) :: hs ∧ EnR K mg w ρ σ ∧ RO K mg w d o ∧ RunC K mg Dd hs (k ρ d) w s H N
theorem pct_mono {Y : Cx} {key : Option Expr} {elt : Expr} {gens : List Comprehension} {scope : Scope} {pos : Pos} {d : Nat} {D : Addr} {vs : List Nat} {t t' : TC} (h : PCT Y key elt gens scope pos d D vs t) (i : ∀ σ H N, t' σ H N → t σ H N) : PCT Y key elt gens scope pos d D vs t' :=
  ⟨fun e pins s σ H N I q => h.last e pins s σ H N I (i _ _ _ q), fun tg it ifs e => ⟨(h.more tg it ifs e).1, fun pins s σ H N I q => (h.more tg it ifs e).2 pins s σ H N I (i _ _ _ q)⟩⟩
abbrev PDC (Y : Cx) (key : Option Expr) (elt : Expr) (gens : List Comprehension) (scope : Scope) (pos : Pos) (d : Nat) (vs : List Nat) (k : CB) : Prop := ∀ D, PCT Y key elt gens scope pos d D vs (rTC Y.K Y.mg D k)
abbrev PDTs (X : Cx) (Wx : XK) (ifs : List Expr) (f : En → M Bool) : Prop := PTs X ifs (rd X.K X.mg RB Wx f)
theorem pts_mono {X : Cx} {e : List Expr} {t t' : TT} (h : PTs X e t) (i : ∀ σ H Q, t' σ H Q → t σ H Q) : PTs X e t' := ⟨fun pins s σ H Q I q => h.run pins s σ H Q I (i σ H Q q)⟩
section
variable {X : Cx} {Wx : XK} {c : Expr} {t : En → M Bool}
theorem pdts_nil : PDTs X Wx [] tTrue := pts_mono pts_nil fun σ H Q ⟨w, ρ, s, env, run⟩ => Run.here run rfl
theorem pdts_one (h : PDT X Wx c t) : PDTs X Wx [c] t := pts_one h
end
section
variable {Y : Cx} {key : Option Expr} {elt kx : Expr} {gens : List Comprehension} {scope : Scope} {pos : Pos} {d : Nat} {f fk : En → M D}
theorem pdc_emL (h : gens[d]? = none) (he : PD Y WF elt f) (hx : Y.xe = fun _ _ => False) : PDC Y none elt gens scope pos d [] (emL f) := fun Dd =>
  pct_mono (pct_emL h he hx) fun σ H N ⟨w, ρ, s, d, o, hs, hh, env, ro, run⟩ => ⟨w, ρ, s, env, RunC.bindE run fun w1 y v H1 s1 le1 r1 run1 => by
    cases d <;> first
      | exact run1.no
      | skip
    next xs =>
      obtain ⟨hz, run1⟩ := RunC.guard (C := xs.length < CAP) run1
      obtain ⟨vs, rfl, rl⟩ := ro.lst_of
      have h1 : w1.hold = (Dd, .lst vs) :: hs := by rw [le1.hd, hh]
      have st1 := run1.1
      have hD := (st1.hld (Dd, .lst vs) (by rw [h1]; exact List.mem_cons_self ..)).1
      obtain ⟨F1, α1, hold1⟩ := w1
      cases h1
      have rl1 := rl.mono le1
      refine ⟨vs, hD, ?_, run1.get (w' := ⟨F1, α1, (Dd, .lst (vs ++ [v])) :: hs⟩) ⟨Same.refl _, List.prefix_refl _⟩ rfl ?_ (Sto.holdSet (w := ⟨F1, α1, []⟩) st1)⟩
      · rw [← rl1.length]
        exact Nat.lt_of_lt_of_le hz (by decide)
      · have le0 : (⟨F1, α1, (Dd, .lst vs) :: hs⟩ : W).le0 ⟨F1, α1, (Dd, .lst (vs ++ [v])) :: hs⟩ := ⟨Same.refl _, List.prefix_refl _⟩
        exact (rl1.mono0 le0).append (.cons (r1.mono0 le0) .nil)⟩
/-- the turns of a clause -/
theorem turns_of {wi : En → M Wl} {g : D → En → M En} {t : En → M Bool} {ts vs : List Nat} {k : CB} {Dd : Addr} {hs : List (Addr × HO)} {w1 : W} {wl : Wl} {J : It} {σ : L2.St} {ρ : En} {s1 : S} {H1 : Hp} {N : Hp → Prop} {acc : DS.D} {o : HO}
    (wk : Wk K mg w1 wl J) (env : EnR K mg w1 ρ σ) (hts : ∀ i ∈ ts, i ∈ vs) (hh : w1.hold = (Dd, o) :: hs) (ro : RO K mg w1 acc o) (hK : Y.K = K) (hmg : Y.mg = mg)
    (run : RunC K mg Dd hs (cLoop wl.ok (fun d acc => bnd (g d (wipeD ρ vs)) fun ρ' => bnd (t ρ') fun c => if c = true then k ρ' acc else ret acc) wl.ds acc) w1 s1 H1 N) :
    tTurns J (rG Y WF ts g) (rd K mg RB WF t) vs (rTC K mg Dd k) σ H1 N := by
  subst hK hmg
  let f : D → DS.D → M DS.D := fun d acc => bnd (g d (wipeD ρ vs)) fun ρ' => bnd (t ρ') fun c => if c = true then k ρ' acc else ret acc
  let inv : Nat → Hp → Prop := fun i H => ∃ w' s acc o, w1.le0 w' ∧ w'.hold = (Dd, o) :: hs ∧ RO Y.K Y.mg w' acc o ∧ RunC Y.K Y.mg Dd hs (cLoop wl.ok f (wl.ds.drop i) acc) w' s H N
  refine ⟨fun i m H => m = wl.ds.length - i ∧ i ≤ wl.ds.length ∧ inv i H, ⟨_, rfl, Nat.zero_le _, w1, s1, acc, o, ⟨Same.refl _, List.prefix_refl _⟩, hh, ro, run⟩, ?_⟩
  rintro i m H2 ⟨rfl, hi, w2, s2, acc2, o2, le2, hh2, ro2, run2⟩
  by_cases hlt : i < wl.ds.length
  · rw [drop_at hlt] at run2
    obtain ⟨hok, run3⟩ := RunC.chk run2
    refine .inr ⟨wk.go w2 s2 H2 i le2 run3.1 hok hlt, inv (i + 1), fun H' p' => ⟨_, by omega, rfl, hlt, p'⟩, fun x H' y => ?_⟩
    obtain ⟨w3, le3, st3, rx⟩ := wk.yl w2 s2 H2 i x H' wl.ds[i] le2 run3.1 hok (List.getElem?_eq_getElem hlt) y
    have run4 := run3.move le3.z st3
    rw [show f wl.ds[i] acc2 = bnd (g wl.ds[i] (wipeD ρ vs)) fun ρ' => bnd (t ρ') fun c => if c = true then k ρ' acc2 else ret acc2 from rfl, bnd_bnd] at run4
    have lew : w1.le0 w3 := le2.trans le3.z
    have env3 : EnR Y.K Y.mg w3 (wipeD ρ vs) (wipe σ vs) := by
      have e := EnR.wipe env vs
      exact ⟨e.1, fun i d q => by
        obtain ⟨v, h1, h2⟩ := e.2 i d q
        exact ⟨v, h1, h2.mono0 lew⟩⟩
    refine ⟨w3, _, s2, _, env3, rx, RunC.bindE run4 fun w4 ρ4 σ4 H4 s4 le4 r4 run5 => ?_⟩
    refine ⟨wipe_eq r4.2.1 r4.2.2 hts, w4, ρ4, s4, r4.1, ?_⟩
    rw [bnd_bnd] at run5
    refine RunC.bindE run5 fun w5 c b H5 s5 le5 r5 run6 => ?_
    have r5 : c = b := r5
    subst r5
    have hh5 : w5.hold = (Dd, o2) :: hs := by rw [le5.hd, le4.hd, le3.hd, hh2]
    have le25 : w2.le w5 := (le3.trans le4).trans le5
    cases c with
    | true =>
      refine ⟨w5, ρ4, s5, acc2, o2, hs, hh5, r4.1.mono le5, ro2.mono le25, RunC.bindC run6 fun w6 a6 o6 H6 s6 le6 hh6 ro6 run7 => ?_⟩
      exact ⟨w6, s6, a6, o6, (le2.trans le25.z).trans le6, hh6, ro6, run7⟩
    | false =>
      have run6 : RunC Y.K Y.mg Dd hs (cLoop wl.ok f (wl.ds.drop (i + 1)) acc2) w5 s5 H5 N := run6
      exact ⟨w5, s5, acc2, o2, le2.trans le25.z, hh5, ro2.mono le25, run6⟩
  · have e : i = wl.ds.length := by omega
    subst e
    rw [List.drop_length] at run2
    obtain ⟨hok, run3⟩ := RunC.chk run2
    exact .inl ⟨wk.st w2 s2 H2 le2 run3.1 hok, run3.get ⟨Same.refl _, List.prefix_refl _⟩ hh2 ro2 run3.1⟩
theorem pdc_cl {tg i : Expr} {ifs : List Expr} {wi : En → M Wl} {g : D → En → M En} {t : En → M Bool} {ts us vs : List Nat} {k : CB} (h : gens[d]? = some ⟨tg, i, ifs, 0⟩) (h1 : gens[d + 1]? = none ∨ ∃ t1 i1 ifs1, gens[d + 1]? = some ⟨t1, i1, ifs1, 0⟩) (hs : ∀ x, foldedSetIterable i Y.env x = pure x)
    (hc : Y.calm = true) (hx : Y.xe = fun _ _ => False) (hi : PDI Y WF tg i wi) (hg : PDG Y WF tg ts g) (ht : PDTs Y WF ifs t) (hp : PDC Y key elt gens scope pos (d + 1) us k) (hsub : ∀ j ∈ us, j ∈ vs) (hts : ∀ i ∈ ts, i ∈ vs) : PDC Y key elt gens scope pos d vs (cCl wi g t vs k) := fun Dd =>
  pct_mono (pct_cl h h1 hs hc hx hi hg ht (hp Dd) hsub) fun σ H N ⟨w, ρ, s, d, o, hs, hh, env, ro, run⟩ => ⟨w, ρ, s, env, RunC.bindE run fun w1 wl J H1 s1 le1 wk run1 =>
    turns_of (Y := Y) (wi := wi) wk (env.mono le1) hts (by rw [le1.hd, hh]) (ro.mono le1) rfl rfl run1⟩
end
section
variable {X : Cx} {Wx : XK} {key : Option Expr} {elt tg iter : Expr} {ifs : List Expr} {gens : List Comprehension} {scope : Scope} {pos : Pos} {own : List (Str × Nat)} {us ts : List Nat} {wi : En → M Wl} {g : D → En → M En} {t : En → M Bool} {k : CB} {acc0 : DS.D} {o0 : HO}
theorem comp_mono (hts : ∀ i ∈ ts, i ∈ own.map (·.2)) (hr : ∀ w, RO X.K X.mg w acc0 o0) : ∀ σ H Q, rd X.K X.mg (RD X.K X.mg) Wx (dComp acc0 wi g t (own.map (·.2)) k) σ H Q → tComp o0 (rIt X Wx wi) (rG X WF ts g) (rd X.K X.mg RB WF t) (own.map (·.2)) (fun D => rTC X.K X.mg D k) σ H Q := by
  rintro σ H Q ⟨w, ρ, s, env, run⟩
  refine ⟨w, ρ, s, env, run.bind fun w1 wl J H1 s1 le1 wk run1 Dd hD => ?_⟩
  obtain ⟨st1, r, s', e, p⟩ := run1
  have st2 := st1.holdNew (p := Dd) (o := o0) hD
  have le0 : w1.le0 ⟨w1.F, w1.α, (Dd, o0) :: w1.hold⟩ := ⟨Same.refl _, List.prefix_refl _⟩
  have wk2 : Wk X.K X.mg ⟨w1.F, w1.α, (Dd, o0) :: w1.hold⟩ wl J := ⟨fun w' s H i le => wk.go w' s H i (le0.trans le), fun w' s H i x H' d le => wk.yl w' s H i x H' d (le0.trans le), fun w' s H le => wk.st w' s H (le0.trans le)⟩
  have env2 : EnR X.K X.mg ⟨w1.F, w1.α, (Dd, o0) :: w1.hold⟩ ρ σ := by
    have e := env.mono le1
    exact ⟨e.1, fun i d q => by
      obtain ⟨v, h1, h2⟩ := e.2 i d q
      exact ⟨v, h1, h2.mono0 le0⟩⟩
  refine turns_of (Y := X) (wi := wi) (hs := w1.hold) (o := o0) (acc := acc0) (s1 := s1) wk2 env2 hts rfl (hr _) rfl rfl ⟨st2, ?_⟩
  unfold noEr at e
  split at e
  · next a s2 em =>
    cases e
    refine ⟨_, _, em, fun w' o H' le hh ro st => ?_⟩
    obtain ⟨F', α', hold'⟩ := w'
    cases hh
    obtain ⟨st3, le3⟩ := Sto.holdEnd (w := ⟨F', α', []⟩) st
    have hnF : F' Dd = none := (st.hld (Dd, o) (List.mem_cons_self ..)).2.1
    have le4 : (⟨F', α', (Dd, o) :: w1.hold⟩ : W).le0 ⟨upd F' Dd o, α', w1.hold⟩ := ⟨le3.sm, le3.pf⟩
    exact p ⟨upd F' Dd o, α', w1.hold⟩ (.ref Dd) H' ⟨(le0.trans le).trans le4, rfl⟩ (ro_rd (ro.mono0 le4) upd_same) st3
  · cases e
theorem pd_comp0 (hc : X.calm = true) (hN : X.N.Nodup) (hi : PDI X Wx tg iter wi) (ok : BlkOk X.N X.env.scope scope own) (h1 : gens[0]? = none ∨ ∃ t1 i1 ifs1, gens[0]? = some ⟨t1, i1, ifs1, 0⟩)
    (hg : ∀ (s : Shared) (H : Hp) (C : Addr) (cl : List (Str × Addr)) (fp : List Addr), PDG (X.blk s H scope (compEnvC scope cl C X.env) fp) WF tg ts g) (ht : ∀ (s : Shared) (H : Hp) (C : Addr) (cl : List (Str × Addr)) (fp : List Addr), PDTs (X.blk s H scope (compEnvC scope cl C X.env) fp) WF ifs t)
    (hp : ∀ (s : Shared) (H : Hp) (C : Addr) (cl : List (Str × Addr)) (fp : List Addr), PDC (X.blk s H scope (compEnvC scope cl C X.env) fp) key elt (⟨tg, iter, ifs, 0⟩ :: gens) scope pos 1 us k) (hsub : ∀ j ∈ us, j ∈ own.map (·.2)) (hts : ∀ i ∈ ts, i ∈ own.map (·.2)) (h0 : OkO key o0)
    (hr : ∀ w, RO X.K X.mg w acc0 o0) (hs : ∀ x, foldedSetIterable iter X.env x = pure x) : PD X Wx (cE key elt (⟨tg, iter, ifs, 0⟩ :: gens) scope pos) (dComp acc0 wi g t (own.map (·.2)) k) := by
  exact pe_mono (pe_comp (o0 := o0) (g := rG X WF ts g) (tt := rd X.K X.mg RB WF t) (t := fun D => rTC X.K X.mg D k) (us := us) hc hN hi ok h1 hg ht (fun D s H C cl fp => hp s H C cl fp D) hsub h0 hs) (comp_mono hts hr)
theorem pds_setC0 {i : Nat} {y : Str} {py spos : Pos} (hc : X.calm = true) (hN : X.N.Nodup) (hy : X.N[i]? = some y) (hyl : X.env.scope.names.lookup y = some .local)
    (hsw : swapsWith (.ListComp elt (⟨tg, iter, ifs, 0⟩ :: gens) scope pos) (some (.Name y py)) spos.line X.env = pure true) (hi : PDI X Wx tg iter wi) (ok : BlkOk X.N X.env.scope scope own) (h1 : gens[0]? = none ∨ ∃ t1 i1 ifs1, gens[0]? = some ⟨t1, i1, ifs1, 0⟩)
    (hg : ∀ (s : Shared) (H : Hp) (C : Addr) (cl : List (Str × Addr)) (fp : List Addr), PDG (X.blk s H scope (compEnvC scope cl C X.env) fp) WF tg ts g) (ht : ∀ (s : Shared) (H : Hp) (C : Addr) (cl : List (Str × Addr)) (fp : List Addr), PDTs (X.blk s H scope (compEnvC scope cl C X.env) fp) WF ifs t)
    (hp : ∀ (s : Shared) (H : Hp) (C : Addr) (cl : List (Str × Addr)) (fp : List Addr), PDC (X.blk s H scope (compEnvC scope cl C X.env) fp) none elt (⟨tg, iter, ifs, 0⟩ :: gens) scope pos 1 us k) (hsub : ∀ j ∈ us, j ∈ own.map (·.2)) (hts : ∀ i ∈ ts, i ∈ own.map (·.2))
    (hs : ∀ x, foldedSetIterable iter X.env x = pure x) : PDS X Wx (.Assign [.Name y py] (.ListComp elt (⟨tg, iter, ifs, 0⟩ :: gens) scope pos) spos) (dSet i (dComp (.lst []) wi g t (own.map (·.2)) k)) :=
  ps_mono (ps_setComp (g := rG X WF ts g) (tt := rd X.K X.mg RB WF t) (t := fun D => rTC X.K X.mg D k) (us := us) hc hN hy hyl hsw hi ok h1 hg ht (fun D s H C cl fp => hp s H C cl fp D) hsub hs) fun D σ H ⟨w, ρ, s, env, run⟩ =>
    comp_mono (acc0 := .lst []) (o0 := .lst []) hts (fun w => RL.nil) σ H _ ⟨w, ρ, s, env, run.bind fun w1 x v1 H1 s1 le1 r1 run1 => Run.here (b := FlV.nx _) run1 ((env.mono le1).set r1)⟩
end
end DS
/-! DSD: dicts, the steps by values -/
namespace DS
open PySem L2 PySem.Spec PyProof.Rows
section
variable {X : Cx}
theorem op_inDict (hu : X.A.units + 1 < cLine) : OpR X (compareOp .In) (fun x y H Q => ∃ a o, y = .ref a ∧ DGet H a x o ∧ Q (.bl o.isSome) H) := by
  intro pins s σ H x y v u Q I rx ry h
  obtain ⟨a, o, rfl, g, q⟩ := h
  cases ry
  exact d_in hu I g rx fun s1 I1 => ⟨.bl o.isSome, H, I1, rfl, q⟩
theorem op_notInDict (hu : X.A.units + 1 < cLine) : OpR X (compareOp .NotIn) (fun x y H Q => ∃ a o, y = .ref a ∧ DGet H a x o ∧ Q (.bl (!o.isSome)) H) := by
  intro pins s σ H x y v u Q I rx ry h
  obtain ⟨a, o, rfl, g, q⟩ := h
  cases ry
  exact d_notIn hu I g rx fun s1 I1 => ⟨.bl (!o.isSome), H, I1, rfl, q⟩
def rIxDc : R2 := fun x y H Q => ∃ a v, x = .ref a ∧ DGet H a y (some v) ∧ Q v H
theorem ix_dictG (hu : X.A.units + 1 < cLine) : IxR X rIxDc := by
  intro value slice pins s σ H x y v u Q I rx ry h hs
  obtain ⟨a, z, rfl, g, q⟩ := h
  cases rx
  exact PyProof.Rows.tail_any (dict_typeIs I g) PySem.F.slot_dict_getitem.lookup (d_getItem hu I g ry fun w' s1 I1 rw' => ⟨z, H, I1, rw', q⟩) hs
def rStDc : TSet := fun o i v H Q => ∃ a H', o = .ref a ∧ DPut H a i v H' ∧ Q H'
theorem set_dictP (hu : X.A.units + 1 < cLine) : PSet X rStDc := by
  intro pins s σ H o i v ov iv u Q I ro ri rv h
  obtain ⟨a, H', rfl, g, q⟩ := h
  cases ro
  exact d_setItem hu I g ri rv fun s1 I1 => ⟨H', I1, q⟩
/-- d.setdefault(y, z) -/
def rSetdef : V → List V → Hp → VK → Prop := fun x xs H Q => ∃ a y z o, x = .ref a ∧ xs = [y, z] ∧ DGet H a y o ∧ (∀ v, o = some v → Q v H) ∧ (o = none → ∃ H', DPut H a y z H' ∧ Q z H') ∧ ((∃ kvs, H a = some (.dK kvs) ∧ kvs.length < sizeLine) ∨ ∃ kvs, H a = some (.dT kvs) ∧ kvs.length < sizeLine)
theorem mt_setdef (hu : X.A.units + 1 < cLine) : MtR X "dict.setdefault" rSetdef := by
  intro pins s σ H x xs v us Q I rx rxs h
  obtain ⟨a, y, z, o, rfl, rfl, g, q1, q2, hd⟩ := h
  cases rx
  obtain ⟨u, r, rfl, ry, rz⟩ := rxs.two
  rcases hd with ⟨kvs0, hk, hl⟩ | ⟨kvs0, hk, hl⟩
  · rcases g with ⟨kvs, k, e, ey, l⟩ | ⟨kvs, k, b, e, ey, eb, l⟩
    · subst ey
      have e' : kvs = kvs0 := by
        rcases e with e | ⟨_, e⟩
        · rw [hk] at e; cases e; rfl
        · rw [hk] at e; cases e
      subst e'
      refine d_setd I hk ry rz hl (fun v hv w' s' I' rw' => ⟨v, H, I', rw', q1 v (by rw [l, hv])⟩) fun hn w' s' I' rw' => ?_
      obtain ⟨H', hp, q⟩ := q2 (by rw [l, hn])
      rcases hp with ⟨kvs2, k2, e2, ey2, _, rfl⟩ | ⟨kvs2, k2, b2, e2, _⟩
      · rw [hk] at e2
        cases e2
        have : k = k2 := by
          cases k <;> cases k2 <;> first
            | (cases ey2; rfl)
            | cases ey2
        subst this
        exact ⟨z, _, I', rw', q⟩
      · rw [hk] at e2
        cases e2
    · rcases e with e | ⟨_, e⟩
      · rw [hk] at e; cases e
      · rw [hk] at e; cases e
  · rcases g with ⟨kvs, k, e, ey, l⟩ | ⟨kvs, k, b, e, ey, eb, l⟩
    · rcases e with e | ⟨_, e⟩
      · rw [hk] at e; cases e
      · rw [hk] at e; cases e
    · subst ey
      cases (show u = Value.ref b from ry)
      have e' : kvs = kvs0 := by
        rcases e with e | ⟨_, e⟩
        · rw [hk] at e; cases e; rfl
        · rw [hk] at e; cases e
      subst e'
      obtain ⟨zz, hds, ys, rel, dd⟩ := dt_of I.hok hk
      have hz : ys.length ≤ sizeLine := by rw [← Paired.length rel]; exact zz
      refine call_setdefault_heap (hsz := hz) (tupleKind_room_in1 hu) (key_of I.hok eb) hds dd (fun p hp => ?_) fun hn h' dd' hs => ?_
      · have rr := rel.val k
        rw [hp] at rr
        cases q0 : valV kvs k with
        | none => rw [q0] at rr; exact (show False from rr).elim
        | some v0 =>
          rw [q0] at rr
          exact ⟨v0, H, I.tok _, rr, q1 v0 (by rw [l, q0])⟩
      · have rr := rel.val k
        rw [hn] at rr
        cases q0 : valV kvs k with
        | some v0 => rw [q0] at rr; exact (show False from rr).elim
        | none =>
          obtain ⟨H', hp, q⟩ := q2 (by rw [l, q0])
          rcases hp with ⟨kvs2, k2, e2, _⟩ | ⟨kvs2, k2, b2, e2, ey2, eb2, _, rfl⟩
          · rw [hk] at e2; cases e2
          · rw [hk] at e2
            cases e2
            cases ey2
            rw [eb] at eb2
            have ek : k = k2 := kVs_inj (by
              have z := Option.some.inj eb2
              injection z)
            subst ek
            have hl2 : (putK kvs k z).length ≤ sizeLine := by have := length_putK kvs k z; omega
            obtain ⟨qq, es, ep, hq, h2, h3, h4, _, h5⟩ := dd'
            refine ⟨z, _, d_write (ob := .dT (putK kvs k z)) I (by rw [hk]; exact True.intro) hs ⟨qq, hq⟩ ⟨hl2, hds, _, (rel.put k eb rz).keeps fun c zs ec => ?_, qq, es, ep, hq, h2, h3, h4, h5⟩, rz, q⟩
            rw [upd_ne (ne_of ec hk (fun z => nomatch z))]
            exact ec
end

/-! ### the values of a locked dict -/
def LkV (H : Hp) (d : Addr) (o : Obj) (vs : List V) : Prop := (∃ kvs : List (List Key × V), H d = some (.frz o (.dT kvs)) ∧ kvs.map (·.2) = vs) ∨ ∃ kvs : List (Key × V), H d = some (.frz o (.dK kvs)) ∧ kvs.map (·.2) = vs
theorem map2_get {κ : Type} {kvs : List (κ × V)} {i : Nat} {x : V} (h : (kvs.map (·.2))[i]? = some x) : ∃ k, kvs[i]? = some (k, x) := by
  rw [List.getElem?_map] at h
  obtain ⟨⟨k, v⟩, e1, e2⟩ := Option.map_eq_some_iff.mp h
  have e2 : v = x := e2
  subst e2
  exact ⟨k, e1⟩
theorem LkV.raw {X : Cx} {pins : List (Addr × Obj)} {σ : L2.St} {H : Hp} {s : Shared} {d : Addr} {o : Obj} {vs : List V} (I : Inv X pins σ H s) (h : LkV H d o vs) :
    (d == sysModules) = false ∧ ∃ (es : Array DictEntry) (ep : Nat), o.data = .dict es ep ∧ s.heap.DictRaw d es ep ∧ es.size = vs.length ∧ ∀ (i : Nat) (x : V), vs[i]? = some x → ∃ en, es[i]? = some en ∧ RelV x en.val := by
  rcases h with ⟨kvs, h, rfl⟩ | ⟨kvs, h, rfl⟩
  · obtain ⟨hd, z, hs, xs, pr, o', es, ep, ho, hx, hdt, he, _⟩ := I.hok d _ h
    rw [hd] at ho
    cases ho
    refine ⟨hs, es, ep, hdt, ⟨o, hd, hx, hdt⟩, ?_, fun i x e => ?_⟩
    · have l1 : es.size = xs.length := size_of_entries he
      have l2 : kvs.length = xs.length := Paired.length pr
      rw [List.length_map]
      omega
    · obtain ⟨k, e1⟩ := map2_get e
      obtain ⟨b, hb, e1', e2, e3⟩ := paired_get pr e1
      have q := entry_at he i
      rw [hb] at q
      exact ⟨_, q, e3⟩
  · obtain ⟨hd, z, hs, ws, kv, o', es, ep, ho, hx, hdt, hk, hp, hn⟩ := I.hok d _ h
    rw [hd] at ho
    cases ho
    have l1 := hp.length
    have l2 : kvs.length = ws.length := Paired.length kv
    rw [Array.length_toList] at l1
    refine ⟨hs, es, ep, hdt, ⟨o, hd, hx, hdt⟩, by rw [List.length_map]; omega, fun i x e => ?_⟩
    obtain ⟨k, e1⟩ := map2_get e
    obtain ⟨u, hu, ru⟩ := kv_get kv e1
    have hi : i < es.size := by
      have := (List.getElem?_eq_some_iff.mp hu).1
      omega
    have := hp.get? (e := es[i]) (by simp [hi]) hu
    exact ⟨es[i], by simp [hi], by rw [this.2]; exact ru⟩
def Itv (d : Addr) (o : Obj) (vs : List V) : It :=
  ⟨fun i H => LkV H d o vs ∧ i < vs.length, fun i H x H' => H' = H ∧ vs[i]? = some x, fun i H => LkV H d o vs ∧ vs.length ≤ i⟩
theorem turn_valsG {P : Program} {w : World} {K : PySem.W.Frag} {tg : Expr} {d : Addr} {o : Obj} {es : Array DictEntry} {ep : Nat} {vs : List V} (it : Addr) (hod : o.data = .dict es ep) (hsz : es.size = vs.length) : Turn P w K tg (Itv d o vs) [it] it (fun i h => h.IsValIter it d i es.size ep) where
  mem := by simp
  obj := fun i h st b hb => by
    have e : b = it := by simpa using hb
    subst e
    obtain ⟨oi, e, c, dd⟩ := st
    exact ⟨oi, e, fun v z => by rw [dd] at z; cases z⟩
  keep := fun i h h' st k => st.at fun oi e => k it (by simp) oi e
  item := by
    intro X hP hw hK hc i pins s σ H E I hf st hg
    subst hP hw hK
    obtain ⟨hd, hi⟩ := hg
    obtain ⟨f0, f1, f2, f3, f4, f5⟩ := hf it (by simp)
    obtain ⟨hs, es', ep', hdt, hm, hsz', ent⟩ := LkV.raw I hd
    obtain ⟨rfl, rfl⟩ := dict_ep hod hdt
    obtain ⟨en, hen, ru⟩ := ent i vs[i] (List.getElem?_eq_getElem hi)
    have hlt : i < es'.size := by omega
    have een : es'[i] = en := by
      rw [Array.getElem?_eq_getElem hlt] at hen
      exact Option.some.inj hen
    refine wpAny_pyNext_values_item_raw st hm hlt fun h' st' sb => ?_
    have I1 : Inv X pins σ H { s with heap := h' } := I.turned (t' := s.toks) (fun b ob hb e => (sb.2 b hb).trans e) f0 f1 f3 f4 f5
    obtain ⟨oi, e, c, dd⟩ := id st'
    refine ⟨_, rfl, go_of (s := { s with heap := h' }) e c dd (by decide) ⟨vs[i], H, I1, by rw [een]; exact ru, ⟨rfl, List.getElem?_eq_getElem hi⟩, st', fun b hb => (hf b hb).1⟩⟩
  done := by
    intro X hP hw hK hc i pins s σ H E I hf st hg
    subst hP hw hK
    obtain ⟨hd, hi⟩ := hg
    obtain ⟨f0, f1, f2, f3, f4, f5⟩ := hf it (by simp)
    obtain ⟨hs, es', ep', hdt, hm, hsz', ent⟩ := LkV.raw I hd
    obtain ⟨rfl, rfl⟩ := dict_ep hod hdt
    exact wpAny_pyNext_values_end_raw (I.ok.hd hc) st hm (by omega) fun h' eb => ⟨rfl, I.turned (t' := s.toks) (fun b ob hb e => eb b ob hb e) f0 f1 f3 f4 f5⟩
  self := fun A i s Q E st h => wpAny_pyIter_valiter st h
def iValsG (td : TE) : TI := fun σ H R => td σ H fun x H1 => ∃ d o vs, x = .ref d ∧ LkV H1 d o vs ∧ R (Itv d o vs) H1
section
variable {X : Cx} {tg e : Expr} {td : TE} {apos cpos : Pos}
theorem pi_valsG (he : PE X e td) (hbase : attributeBase e "values" X.env (eval e X.env) = eval e X.env := by rfl) (hline : (apos.endLine == cpos.line) = true := by rfl) : PI X tg (.Call (.Attribute e "values" apos) [] [] cpos) (iValsG td) := by
  refine ⟨fun pins s σ H R I h => ?_⟩
  refine wpAny_Call_method (T := "dict") (id := "dict.values") hbase rfl hline F.plainAttrs_dict F.slot_dict_values F.type_dict_values (thn (he.run pins s σ H _ I h) fun u s1 ⟨x, H1, I1, rx, d, o, vs, ex, hd, q⟩ => ?_)
  subst ex
  obtain rfl : u = Value.ref d := rx
  obtain ⟨hs, es, ep, hdt, hm, hsz, ent⟩ := LkV.raw I1 hd
  refine ⟨hm.typeIs, fun b e => ?_, ?_⟩
  · cases e
    obtain ⟨ob, h1, h2, _⟩ := hm
    exact ⟨ob, h1, h2.2.1⟩
  have I2 : Inv X pins σ H1 { s1 with heap := s1.heap.push { cls := .type "dict_values", data := .fields #[.ref d] } } := I1.kept (t' := s1.toks) fun b ob q => Heap.get?_push_of_some _ q
  have fin : wpAny (model X.prog X.w) X.A (pyIter (.ref s1.heap.objs.size)) (PIE X pins σ tg R) X.xe { s1 with heap := s1.heap.push { cls := .type "dict_values", data := .fields #[.ref d] } } :=
    wpAny_pyIter_values_raw (d := d) ⟨_, Heap.get?_push_size _ rfl, rfl, rfl⟩ (hm.at fun o e => Heap.get?_push_of_some _ e) (pi_one (tk := s1.toks) I2 _ (turn_valsG _ hdt hsz) ⟨_, Heap.get?_push_size _ rfl, rfl, rfl⟩ q)
  show wpAny _ _ (callWith cpos (.builtin "dict.values") [.ref d] [] []) _ X.xe s1
  exact method_meetsIn F.slot_dict_values F.entry_dict_values rfl (PySem.evalArgs_none ⟨rfl, hm.typeIs, F.args_dict_values_1 _, _, meets_dict_values_raw d hs, ⟨es, ep, hm⟩, fin⟩)
end
end DS
/-! DS7: dicts by value, methods of lists and dicts, fields written -/
namespace DS
open PySem L2 PySem.Spec PyProof.Rows
variable {K : PySem.W.Frag} {mg : Str → Option Value}

/-! ### keys and rows -/
def keyK : D → Option Key
  | .int i => some (.inl i)
  | .str x => some (.inr x)
  | _ => none
def keysOf : List D → Option (List Key)
  | [] => some []
  | x :: xs => match keyK x, keysOf xs with
    | some k, some ks => some (k :: ks)
    | _, _ => none
def keyT : D → Option (List Key)
  | .tup xs => keysOf xs
  | _ => none
theorem keyK_of {w : W} {x : D} {v : V} {k : Key} (r : RD K mg w x v) (e : keyK x = some k) : v = kV k := by
  cases r <;> first
    | (cases e; done)
    | skip
  · cases e; rfl
  · cases e; rfl
theorem keysOf_of {w : W} : ∀ {xs : List D} {vs : List V} {ks : List Key}, RL K mg w xs vs → keysOf xs = some ks → vs = ks.map kV
  | _, _, _, .nil, e => by cases e; rfl
  | _, _, _, .cons (d := d) (ds := ds) a b, e => by
    unfold keysOf at e
    cases h1 : keyK d with
    | none => rw [h1] at e; cases e
    | some k =>
      cases h2 : keysOf ds with
      | none => rw [h1, h2] at e; cases e
      | some ks =>
        rw [h1, h2] at e
        cases e
        rw [keyK_of a h1, keysOf_of b h2]
        rfl
theorem keyT_of {w : W} {H : Hp} {x : D} {v : V} {ks : List Key} (ex : Same w.F H) (r : RD K mg w x v) (e : keyT x = some ks) : ∃ b, v = .ref b ∧ H b = some (.tup (ks.map kV)) := by
  cases r <;> first
    | (cases e; done)
    | skip
  next a ds vs q r => exact ⟨a, rfl, by rw [← keysOf_of r e]; exact ex _ _ q⟩
section
variable {κ : Type} [DecidableEq κ]
def dget (k : κ) : List κ → List D → Option D
  | n :: ns, d :: ds => if n = k then some d else dget k ns ds
  | _, _ => none
def dputK (k : κ) : List κ → List κ
  | [] => [k]
  | n :: ns => if n = k then n :: ns else n :: dputK k ns
def dputV (k : κ) (v : D) : List κ → List D → List D
  | n :: ns, d :: ds => if n = k then v :: ds else d :: dputV k v ns ds
  | _, _ => [v]
theorem dget_rel {w : W} (k : κ) : ∀ {kvs : List (κ × V)} {ks : List κ} {ds : List D}, kvs.map (·.1) = ks → RL K mg w ds (kvs.map (·.2)) → (∃ d v, dget k ks ds = some d ∧ valV kvs k = some v ∧ RD K mg w d v) ∨ (dget k ks ds = none ∧ valV kvs k = none)
  | [], _, _, e, r => by subst e; cases r; exact .inr ⟨rfl, rfl⟩
  | (n, v) :: kvs, _, _, e, r => by
    subst e
    cases r with
    | cons r1 r2 =>
      rename_i d ds
      by_cases hn : n = k
      · exact .inl ⟨d, v, by show (if n = k then some d else _) = _; rw [if_pos hn], valV_pos hn, r1⟩
      · have e1 : dget k (List.map (·.1) ((n, v) :: kvs)) (d :: ds) = dget k (kvs.map (·.1)) ds := by
          show (if n = k then some d else dget k (kvs.map (·.1)) ds) = _
          rw [if_neg hn]
        rw [e1, valV_neg hn]
        exact dget_rel k rfl r2
/-- in its place, or at the end: the same for keys that are unlike -/
def putL (k : κ) (v : V) : List (κ × V) → List (κ × V)
  | [] => [(k, v)]
  | p :: r => if p.1 = k then (p.1, v) :: r else p :: putL k v r
theorem putK_eq (k : κ) (v : V) : ∀ kvs : List (κ × V), (kvs.map (·.1)).Nodup → putK kvs k v = putL k v kvs
  | [], _ => rfl
  | p :: r, h => by
    have h1 : p.1 ∉ r.map (·.1) ∧ (r.map (·.1)).Nodup := List.nodup_cons.mp h
    by_cases e : p.1 = k
    · have hno : ∀ q ∈ r, ¬ q.1 = k := fun q hq z => h1.1 (by rw [e, ← z]; exact List.mem_map_of_mem (f := (·.1)) hq)
      have hm : r.map (fun kv => if kv.1 = k then (kv.1, v) else kv) = r := by
        conv => rhs; rw [← List.map_id r]
        exact List.map_congr_left fun q hq => by rw [if_neg (hno q hq)]; rfl
      unfold putK putL
      rw [if_pos (by simp [e]), if_pos e, List.map_cons, if_pos e, hm]
    · have ih := putK_eq k v r h1.2
      unfold putK at ih ⊢
      unfold putL
      rw [if_neg e]
      have ea : ((p :: r).any fun kv => decide (kv.1 = k)) = r.any fun kv => decide (kv.1 = k) := by simp [e]
      rw [ea]
      by_cases ha : (r.any fun kv => decide (kv.1 = k)) = true
      · rw [if_pos ha] at ih ⊢
        rw [List.map_cons, if_neg e, ih]
      · rw [if_neg ha] at ih ⊢
        rw [List.cons_append, ih]
theorem dput_rel {w : W} (k : κ) {d : D} {v : V} (rd : RD K mg w d v) : ∀ {kvs : List (κ × V)} {ks : List κ} {ds : List D}, kvs.map (·.1) = ks → RL K mg w ds (kvs.map (·.2)) → (putL k v kvs).map (·.1) = dputK k ks ∧ RL K mg w (dputV k d ks ds) ((putL k v kvs).map (·.2))
  | [], _, _, e, r => by subst e; cases r; exact ⟨rfl, .cons rd .nil⟩
  | (n, u) :: kvs, _, _, e, r => by
    subst e
    cases r with
    | cons r1 r2 =>
      rename_i d0 ds
      show (putL k v ((n, u) :: kvs)).map (·.1) = (if n = k then n :: kvs.map (·.1) else n :: dputK k (kvs.map (·.1))) ∧ RL K mg w (if n = k then d :: ds else d0 :: dputV k d (kvs.map (·.1)) ds) ((putL k v ((n, u) :: kvs)).map (·.2))
      unfold putL
      by_cases hn : n = k
      · rw [if_pos hn, if_pos hn, if_pos hn]
        exact ⟨rfl, .cons rd r2⟩
      · rw [if_neg hn, if_neg hn, if_neg hn]
        obtain ⟨h1, h2⟩ := dput_rel k rd rfl r2
        exact ⟨by rw [List.map_cons, h1], .cons r1 h2⟩
end

/-! ### a dict as data: what it holds, where it lies -/
def DAt (K : PySem.W.Frag) (mg : Str → Option Value) (w : W) (H : Hp) (c : D) (a : Addr) : Prop := match c with
  | .dT ks ds => ∃ kvs, H a = some (.dT kvs) ∧ kvs.map (·.1) = ks ∧ RL K mg w ds (kvs.map (·.2))
  | .dK ks ds => ∃ kvs, H a = some (.dK kvs) ∧ kvs.map (·.1) = ks ∧ RL K mg w ds (kvs.map (·.2))
  | .lckT ks ds => ∃ o kvs, H a = some (.frz o (.dT kvs)) ∧ kvs.map (·.1) = ks ∧ RL K mg w ds (kvs.map (·.2))
  | .lckK ks ds => ∃ o kvs, H a = some (.frz o (.dK kvs)) ∧ kvs.map (·.1) = ks ∧ RL K mg w ds (kvs.map (·.2))
  | _ => False
def isDct : D → Bool
  | .dT _ _ => true
  | .dK _ _ => true
  | .lckT _ _ => true
  | .lckK _ _ => true
  | _ => false
def dctOf : D → M D
  | .ref a => bnd (look a) fun c => if isDct c = true then ret c else stuck
  | c => if isDct c = true then ret c else stuck
theorem RO.dAt {w : W} {H : Hp} {c : D} {o : HO} {a : Addr} (r : RO K mg w c o) (h : H a = some o) (hd : isDct c = true) : DAt K mg w H c a := by
  cases c <;> cases o <;> first
    | (exact r.elim; done)
    | (cases hd; done)
    | skip
  · exact ⟨_, h, r.1, r.2⟩
  · exact ⟨_, h, r.1, r.2⟩
  · rename_i ob u
    cases u <;> first
      | (exact r.elim; done)
      | exact ⟨_, _, h, r.1, r.2⟩
  · rename_i ob u
    cases u <;> first
      | (exact r.elim; done)
      | exact ⟨_, _, h, r.1, r.2⟩
theorem dct_of {w : W} {s : S} {σ : L2.St} {H : Hp} {α β : Type} {R : W → α → β → Prop} {Wx : XK} {Q : β → Hp → Prop} {d : D} {v : V} {m : D → M α} (r : RD K mg w d v) (run : Run K mg R Wx (bnd (dctOf d) m) w s σ H Q) :
    ∃ a c, v = .ref a ∧ DAt K mg w H c a ∧ Run K mg R Wx (m c) w s σ H Q := by
  cases r <;> first
    | exact run.no
    | skip
  · next a ks ds kvs q e r => exact ⟨a, .dT ks ds, rfl, ⟨kvs, run.1.ex _ _ q, e, r⟩, run⟩
  · next a ks ds kvs q e r => exact ⟨a, .dK ks ds, rfl, ⟨kvs, run.1.ex _ _ q, e, r⟩, run⟩
  · next a o ks ds kvs q e r => exact ⟨a, .lckT ks ds, rfl, ⟨o, kvs, run.1.ex _ _ q, e, r⟩, run⟩
  · next a o ks ds kvs q e r => exact ⟨a, .lckK ks ds, rfl, ⟨o, kvs, run.1.ex _ _ q, e, r⟩, run⟩
  · next a p q =>
    have run : Run K mg R Wx (bnd (bnd (look a) fun c => if isDct c = true then ret c else stuck) m) w s σ H Q := run
    rw [bnd_bnd] at run
    obtain ⟨c, o, e1, e2, r, run⟩ := Run.look q run
    by_cases hc : isDct c = true
    · rw [if_pos hc] at run
      exact ⟨_, c, rfl, r.dAt e2 hc, run⟩
    · rw [if_neg hc] at run
      exact run.no
def dctGet (c y : D) : Option (Option D) := match c with
  | .dT ks ds => (keyT y).map fun k => dget k ks ds
  | .lckT ks ds => (keyT y).map fun k => dget k ks ds
  | .dK ks ds => (keyK y).map fun k => dget k ks ds
  | .lckK ks ds => (keyK y).map fun k => dget k ks ds
  | _ => none
def ORel (K : PySem.W.Frag) (mg : Str → Option Value) (w : W) : Option D → Option V → Prop
  | some d, some v => RD K mg w d v
  | none, none => True
  | _, _ => False
theorem dget_or {κ : Type} [DecidableEq κ] {w : W} {k : κ} {kvs : List (κ × V)} {ks : List κ} {ds : List D} (e : kvs.map (·.1) = ks) (r : RL K mg w ds (kvs.map (·.2))) : ORel K mg w (dget k ks ds) (valV kvs k) := by
  rcases dget_rel k e r with ⟨d, v, h1, h2, h3⟩ | ⟨h1, h2⟩
  · rw [h1, h2]; exact h3
  · rw [h1, h2]; exact trivial
theorem dctGet_of {w : W} {H : Hp} {c y : D} {a : Addr} {vy : V} {o : Option D} (ex : Same w.F H) (h : DAt K mg w H c a) (ry : RD K mg w y vy) (e : dctGet c y = some o) : ∃ ov, DGet H a vy ov ∧ ORel K mg w o ov := by
  cases c <;> first
    | (exact h.elim; done)
    | skip
  · next ks ds =>
    obtain ⟨kvs, h1, h2, h3⟩ := h
    obtain ⟨k, e1, e2⟩ := Option.map_eq_some_iff.mp e
    obtain ⟨b, rfl, hb⟩ := keyT_of ex ry e1
    exact ⟨_, .inr ⟨kvs, k, b, .inl h1, rfl, hb, rfl⟩, by rw [← e2]; exact dget_or h2 h3⟩
  · next ks ds =>
    obtain ⟨kvs, h1, h2, h3⟩ := h
    obtain ⟨k, e1, e2⟩ := Option.map_eq_some_iff.mp e
    exact ⟨_, .inl ⟨kvs, k, .inl h1, keyK_of ry e1, rfl⟩, by rw [← e2]; exact dget_or h2 h3⟩
  · next ks ds =>
    obtain ⟨ob, kvs, h1, h2, h3⟩ := h
    obtain ⟨k, e1, e2⟩ := Option.map_eq_some_iff.mp e
    obtain ⟨b, rfl, hb⟩ := keyT_of ex ry e1
    exact ⟨_, .inr ⟨kvs, k, b, .inr ⟨ob, h1⟩, rfl, hb, rfl⟩, by rw [← e2]; exact dget_or h2 h3⟩
  · next ks ds =>
    obtain ⟨ob, kvs, h1, h2, h3⟩ := h
    obtain ⟨k, e1, e2⟩ := Option.map_eq_some_iff.mp e
    exact ⟨_, .inl ⟨kvs, k, .inr ⟨ob, h1⟩, keyK_of ry e1, rfl⟩, by rw [← e2]; exact dget_or h2 h3⟩
def dctPut (c y z : D) : Option D := match c with
  | .dT ks ds => if ks.length < CAP ∧ ks.Nodup then (keyT y).map fun k => .dT (dputK k ks) (dputV k z ks ds) else none
  | .dK ks ds => if ks.length < CAP ∧ ks.Nodup then (keyK y).map fun k => .dK (dputK k ks) (dputV k z ks ds) else none
  | _ => none
theorem capL {n : Nat} (h : n < CAP) : n < sizeLine := Nat.lt_of_lt_of_le h (by decide)
theorem dctPut_of {w : W} {H : Hp} {c y z c' : D} {a : Addr} {o : HO} {vy vz : V} (ex : Same w.F H) (hr : RO K mg w c o) (ha : H a = some o) (ry : RD K mg w y vy) (rz : RD K mg w z vz) (e : dctPut c y z = some c') : ∃ o', DPut H a vy vz (upd H a o') ∧ RO K mg w c' o' := by
  cases c <;> first
    | (cases e; done)
    | skip
  · next ks ds =>
    obtain ⟨kvs, rfl, h2, h3⟩ := hr.dT_of
    unfold dctPut at e
    dsimp only at e
    split at e
    · next hz =>
      obtain ⟨k, e1, e2⟩ := Option.map_eq_some_iff.mp e
      obtain ⟨b, rfl, hb⟩ := keyT_of ex ry e1
      subst e2
      obtain ⟨h4, h5⟩ := dput_rel k rz h2 h3
      have hl : kvs.length < CAP := by rw [← List.length_map (f := (·.1)), h2]; exact hz.1
      refine ⟨.dT (putK kvs k vz), .inr ⟨kvs, k, b, ha, rfl, hb, capL hl, rfl⟩, ?_⟩
      rw [putK_eq k vz kvs (by rw [h2]; exact hz.2)]
      exact ⟨h4, h5⟩
    · cases e
  · next ks ds =>
    obtain ⟨kvs, rfl, h2, h3⟩ := hr.dK_of
    unfold dctPut at e
    dsimp only at e
    split at e
    · next hz =>
      obtain ⟨k, e1, e2⟩ := Option.map_eq_some_iff.mp e
      subst e2
      obtain ⟨h4, h5⟩ := dput_rel k rz h2 h3
      have hl : kvs.length < CAP := by rw [← List.length_map (f := (·.1)), h2]; exact hz.1
      refine ⟨.dK (putK kvs k vz), .inl ⟨kvs, k, ha, keyK_of ry e1, capL hl, rfl⟩, ?_⟩
      rw [putK_eq k vz kvs (by rw [h2]; exact hz.2)]
      exact ⟨h4, h5⟩
    · cases e

/-! ### x[y], y in x: rows and dicts -/
def isSeqD : D → Bool
  | .tup _ => true
  | .gtp _ => true
  | .lst _ => true
  | .scr _ => true
  | _ => false
def oIxG : D → D → M D
  | .ref a, y => bnd (look a) fun c => match c with
    | .lst ds => match y with
      | .int i => ofO (atI ds i)
      | _ => stuck
    | c => match dctGet c y with
      | some (some d) => ret d
      | _ => stuck
  | x, y => if isSeqD x = true then oIx x y else match dctGet x y with
    | some (some d) => ret d
    | _ => stuck
theorem dctGet_dct {c y : D} {o : Option D} (e : dctGet c y = some o) : isDct c = true := by
  cases c <;> first
    | rfl
    | cases e
theorem im_ixG : Im2 K mg oIxG (fun x y H Q => rIx K x y H Q ∨ rIxDc x y H Q) := fun {Wx w s σ H x y vx vy Q} rx ry run => by
  have dc : ∀ {c : D} {a : Addr}, DAt K mg w H c a → Run K mg (RD K mg) Wx (match dctGet c y with | some (some d) => ret d | _ => stuck) w s σ H Q → rIxDc (.ref a) vy H Q := fun {c a} h run => by
    cases e : dctGet c y with
    | none => rw [e] at run; exact run.no
    | some o =>
      cases o with
      | none => rw [e] at run; exact run.no
      | some d =>
        rw [e] at run
        obtain ⟨ov, g, r⟩ := dctGet_of run.1.ex h ry e
        cases ov with
        | none => exact r.elim
        | some v => exact ⟨a, v, rfl, g, run.here r⟩
  cases rx <;> first
    | exact .inl (im_ix (.tup (by assumption) (by assumption)) ry run)
    | exact .inl (im_ix (.gtp (by assumption) (by assumption)) ry run)
    | exact .inl (im_ix (.lst (by assumption) (by assumption)) ry run)
    | exact .inl (im_ix (.scr (by assumption) (by assumption)) ry run)
    | exact run.no
    | skip
  · next a ks ds kvs q e r => exact .inr (dc (c := .dT ks ds) ⟨kvs, run.1.ex _ _ q, e, r⟩ run)
  · next a ks ds kvs q e r => exact .inr (dc (c := .dK ks ds) ⟨kvs, run.1.ex _ _ q, e, r⟩ run)
  · next a o ks ds kvs q e r => exact .inr (dc (c := .lckT ks ds) ⟨o, kvs, run.1.ex _ _ q, e, r⟩ run)
  · next a o ks ds kvs q e r => exact .inr (dc (c := .lckK ks ds) ⟨o, kvs, run.1.ex _ _ q, e, r⟩ run)
  · next a p q =>
    obtain ⟨c, o, e1, e2, r, run⟩ := Run.look q run
    by_cases hl : ∃ ds, c = .lst ds
    · obtain ⟨ds, rfl⟩ := hl
      obtain ⟨vs, rfl, r⟩ := r.lst_of
      cases ry with
      | int i =>
        obtain ⟨d, e, run⟩ := Run.ofO (o := atI ds i) run
        obtain ⟨v, e3, rv⟩ := r.atI e
        exact .inl (.inl ⟨_, _, _, _, rfl, rfl, SqL.of e2, e3, run.here rv⟩)
      | _ => exact run.no
    · have run : Run K mg (RD K mg) Wx (match dctGet c y with | some (some d) => ret d | _ => stuck) w s σ H Q := by
        cases c <;> first
          | exact run
          | exact absurd ⟨_, rfl⟩ hl
      cases e : dctGet c y with
      | none => rw [e] at run; exact run.no
      | some ov =>
        exact .inr (dc (r.dAt e2 (dctGet_dct e)) run)
def oInG (neg : Bool) : D → D → M D
  | x, .ref a => bnd (look a) fun c => match c with
    | .lst ys => match inB x ys with
      | some b => ret (.bl (if neg then !b else b))
      | none => stuck
    | c => match dctGet c x with
      | some o => ret (.bl (if neg then !o.isSome else o.isSome))
      | none => stuck
  | x, c => if isSeqD c = true then oIn neg x c else match dctGet c x with
    | some o => ret (.bl (if neg then !o.isSome else o.isSome))
    | none => stuck
def rInG (K : PySem.W.Frag) (neg : Bool) : R2 := fun x y H Q => rIn K neg x y H Q ∨ ∃ a o, y = .ref a ∧ DGet H a x o ∧ Q (.bl (if neg then !o.isSome else o.isSome)) H
theorem op_inG {X : Cx} (hu : X.A.units + 1 < cLine) (h : OpR X (compareOp .In) (rIn X.K false)) : OpR X (compareOp .In) (rInG X.K false) := OpR.or h (op_inDict hu)
theorem op_notInG {X : Cx} (hu : X.A.units + 1 < cLine) (h : OpR X (compareOp .NotIn) (rIn X.K true)) : OpR X (compareOp .NotIn) (rInG X.K true) := OpR.or h (op_notInDict hu)
theorem ORel.isSome {w : W} {o : Option D} {ov : Option V} (h : ORel K mg w o ov) : ov.isSome = o.isSome := by
  cases o <;> cases ov <;> first
    | rfl
    | exact h.elim
theorem im_inG (neg : Bool) : Im2 K mg (oInG neg) (rInG K neg) := fun {Wx w s σ H x y vx vy Q} rx ry run => by
  have dc : ∀ {c : D} {a : Addr}, DAt K mg w H c a → Run K mg (RD K mg) Wx (match dctGet c x with | some o => ret (.bl (if neg then !o.isSome else o.isSome)) | none => stuck) w s σ H Q → ∃ b o, V.ref a = .ref b ∧ DGet H b vx o ∧ Q (.bl (if neg then !o.isSome else o.isSome)) H := fun {c a} h run => by
    cases e : dctGet c x with
    | none => rw [e] at run; exact run.no
    | some o =>
      rw [e] at run
      obtain ⟨ov, g, r⟩ := dctGet_of run.1.ex h rx e
      exact ⟨a, ov, rfl, g, by rw [r.isSome]; exact run.here (.bl _)⟩
  cases ry <;> first
    | exact .inl (im_in neg rx (.tup (by assumption) (by assumption)) run)
    | exact .inl (im_in neg rx (.gtp (by assumption) (by assumption)) run)
    | exact .inl (im_in neg rx (.lst (by assumption) (by assumption)) run)
    | exact .inl (im_in neg rx (.scr (by assumption) (by assumption)) run)
    | exact run.no
    | skip
  · next a ks ds kvs q e r => exact .inr (dc (c := .dT ks ds) ⟨kvs, run.1.ex _ _ q, e, r⟩ run)
  · next a ks ds kvs q e r => exact .inr (dc (c := .dK ks ds) ⟨kvs, run.1.ex _ _ q, e, r⟩ run)
  · next a o ks ds kvs q e r => exact .inr (dc (c := .lckT ks ds) ⟨o, kvs, run.1.ex _ _ q, e, r⟩ run)
  · next a o ks ds kvs q e r => exact .inr (dc (c := .lckK ks ds) ⟨o, kvs, run.1.ex _ _ q, e, r⟩ run)
  · next a p q =>
    obtain ⟨c, o, e1, e2, r, run⟩ := Run.look q run
    by_cases hl : ∃ ds, c = .lst ds
    · obtain ⟨ys, rfl⟩ := hl
      obtain ⟨vs, rfl, r⟩ := r.lst_of
      cases h : inB x ys with
      | none =>
        have run : Run K mg (RD K mg) Wx (match inB x ys with | some b => ret (.bl (if neg then !b else b)) | none => stuck) w s σ H Q := run
        rw [h] at run
        exact run.no
      | some b =>
        have run : Run K mg (RD K mg) Wx (match inB x ys with | some b => ret (.bl (if neg then !b else b)) | none => stuck) w s σ H Q := run
        rw [h] at run
        obtain ⟨f1, f2, e⟩ := inB_of rx r h
        exact .inl ⟨_, _, rfl, .inl (SqL.of e2), f1, f2, by rw [e]; exact run.here (.bl _)⟩
    · have run : Run K mg (RD K mg) Wx (match dctGet c x with | some o => ret (.bl (if neg then !o.isSome else o.isSome)) | none => stuck) w s σ H Q := by
        cases c <;> first
          | exact run
          | exact absurd ⟨_, rfl⟩ hl
      cases e : dctGet c x with
      | none => rw [e] at run; exact run.no
      | some ov => exact .inr (dc (r.dAt e2 (dctGet_dct e)) run)
theorem pd_ixG {X : Cx} {Wx : XK} {a b : Expr} {f g : En → M D} {pos : Pos} (hu : X.A.units + 1 < cLine) (ha : PD X Wx a f) (hb : PD X Wx b g) (hs : PlainIx b := by exact fun _ _ => rfl) : PD X Wx (.Subscript a b pos) (dBin oIxG f g) :=
  pe_mono (pe_ix (IxR.or ix_D (ix_dictG hu)) ha hb hs) (tOp_of im_ixG)

/-! ### o[i] = v -/
def stG : D → D → D → M Unit
  | .ref a, y, z => bnd (look a) fun c => match c with
    | .lst ds => match y with
      | .int k => match ixN ds.length k with
        | some j => bnd (put a (.lst (ds.set j z))) fun _ => ret ()
        | none => stuck
      | _ => stuck
    | c => match dctPut c y z with
      | some c' => bnd (put a c') fun _ => ret ()
      | none => stuck
  | _, _, _ => stuck
theorem pdset_g {X : Cx} {Wx : XK} (hu : X.A.units + 1 < cLine) : PDSet X Wx stG := pset_mono (pset_or set_list (set_dictP hu)) fun o i v H Q ⟨w, s, x, y, z, r1, r2, r3, σ, run⟩ => by
  cases r1 with
  | @ref i0 p0 q =>
    obtain ⟨c, ho, e1, e2, r, run⟩ := Run.look q run
    by_cases hl : ∃ ds, c = .lst ds
    · obtain ⟨ds, rfl⟩ := hl
      obtain ⟨vs, rfl, r⟩ := r.lst_of
      cases r2 with
      | int k =>
        dsimp only at run
        cases hj : ixN ds.length k with
        | none => rw [hj] at run; exact run.no
        | some j =>
          rw [hj] at run
          exact .inl ⟨_, vs, k, j, rfl, rfl, e2, by rw [← r.length]; exact hj, (Run.put (d := .lst (ds.set j z)) (o := .lst (vs.set j v)) q (r.set r3 j) run).here (b := ()) trivial⟩
      | _ => exact run.no
    · have run : Run X.K X.mg (fun _ (_ : Unit) (_ : Unit) => True) Wx (match dctPut c y z with | some c' => bnd (put i0 c') fun _ => ret () | none => stuck) w s σ H (fun _ H' => Q H') := by
        cases c <;> first
          | (exfalso; exact hl ⟨_, rfl⟩)
          | exact run
      cases e : dctPut c y z with
      | none => rw [e] at run; exact run.no
      | some c' =>
        rw [e] at run
        obtain ⟨o', h1, h2⟩ := dctPut_of run.1.ex r e2 r2 r3 e
        exact .inr ⟨_, _, rfl, h1, (Run.put q h2 run).here (b := ()) trivial⟩
  | _ => exact run.no

/-! ### methods of built-ins -/
def tyM (T : String) : D → M Unit
  | .ref a => bnd (look a) fun c => match c with
    | .lst _ => if T = "list" then ret () else stuck
    | .dT _ _ => if T = "dict" then ret () else stuck
    | .dK _ _ => if T = "dict" then ret () else stuck
    | _ => stuck
  | .lst _ => if T = "list" then ret () else stuck
  | .scr _ => if T = "list" then ret () else stuck
  | .dT _ _ => if T = "dict" then ret () else stuck
  | .dK _ _ => if T = "dict" then ret () else stuck
  | .str _ => if T = "str" then ret () else stuck
  | _ => stuck
theorem tyM_of {w : W} {s : S} {σ : L2.St} {H : Hp} {α β : Type} {R : W → α → β → Prop} {Wx : XK} {Q : β → Hp → Prop} {T : String} {d : D} {v : V} {m : M α} (r : RD K mg w d v) (run : Run K mg R Wx (bnd (tyM T d) fun _ => m) w s σ H Q) : tyV K T v H ∧ Run K mg R Wx m w s σ H Q := by
  have gd : ∀ {C : Prop} [Decidable C], Run K mg R Wx (bnd (if C then ret () else stuck) fun _ => m) w s σ H Q → C ∧ Run K mg R Wx m w s σ H Q := fun {C} _ h => by
    by_cases c : C
    · rw [if_pos c] at h
      exact ⟨c, h⟩
    · rw [if_neg c] at h
      exact h.no
  cases r <;> first
    | exact run.no
    | skip
  · obtain ⟨h, run⟩ := gd (C := T = "str") run
    exact ⟨h, run⟩
  · next a ds vs q r =>
    obtain ⟨h, run⟩ := gd (C := T = "list") run
    exact ⟨.inl ⟨h, vs, SqL.of (run.1.ex _ _ q)⟩, run⟩
  · next a ds vs q r =>
    obtain ⟨h, run⟩ := gd (C := T = "list") run
    exact ⟨.inl ⟨h, vs, run.1.ex.seq q⟩, run⟩
  · next a ks ds kvs q e r =>
    obtain ⟨h, run⟩ := gd (C := T = "dict") run
    exact ⟨.inr (.inr (.inl ⟨h, .inr ⟨kvs, run.1.ex _ _ q⟩⟩)), run⟩
  · next a ks ds kvs q e r =>
    obtain ⟨h, run⟩ := gd (C := T = "dict") run
    exact ⟨.inr (.inr (.inl ⟨h, .inl ⟨kvs, run.1.ex _ _ q⟩⟩)), run⟩
  · next a p q =>
    have run : Run K mg R Wx (bnd (bnd (look a) fun c => match c with
      | .lst _ => if T = "list" then ret () else stuck
      | .dT _ _ => if T = "dict" then ret () else stuck
      | .dK _ _ => if T = "dict" then ret () else stuck
      | _ => stuck) fun _ => m) w s σ H Q := run
    rw [bnd_bnd] at run
    obtain ⟨c, o, e1, e2, r, run⟩ := Run.look q run
    cases c <;> first
      | exact run.no
      | skip
    · obtain ⟨vs, rfl, r⟩ := r.lst_of
      obtain ⟨h, run⟩ := gd (C := T = "list") run
      exact ⟨.inl ⟨h, vs, SqL.of e2⟩, run⟩
    · obtain ⟨kvs, rfl, h1, h2⟩ := r.dT_of
      obtain ⟨h, run⟩ := gd (C := T = "dict") run
      exact ⟨.inr (.inr (.inl ⟨h, .inr ⟨kvs, e2⟩⟩)), run⟩
    · obtain ⟨kvs, rfl, h1, h2⟩ := r.dK_of
      obtain ⟨h, run⟩ := gd (C := T = "dict") run
      exact ⟨.inr (.inr (.inl ⟨h, .inl ⟨kvs, e2⟩⟩)), run⟩
def ImM (K : PySem.W.Frag) (mg : Str → Option Value) (o : D → List D → M D) (r : V → List V → Hp → VK → Prop) : Prop :=
  ∀ {Wx : XK} {w : W} {s : S} {σ : L2.St} {H : Hp} {x : D} {vx : V} {xs : List D} {vs : List V} {Q : VK}, RD K mg w x vx → RL K mg w xs vs → Run K mg (RD K mg) Wx (o x xs) w s σ H Q → r vx vs H Q
def dBM (T : String) (o : D → List D → M D) (f : En → M D) (g : En → M (List D)) : En → M D := fun ρ => bnd (f ρ) fun x => bnd (tyM T x) fun _ => bnd (g ρ) fun xs => o x xs
def dBM0 (T : String) (o : D → List D → M D) (f : En → M D) : En → M D := fun ρ => bnd (f ρ) fun x => bnd (tyM T x) fun _ => o x []
section
variable {X : Cx} {Wx : XK} {ob e : Expr} {es : List Expr} {f : En → M D} {g : En → M (List D)} {name : Str} {apos cpos : Pos} {T id : String} {r : V → List V → Hp → VK → Prop} {o : D → List D → M D}
theorem pd_bm (pa : PlainAttrs T) (slot : Slot T name id) (hty : typeOf (.builtin id) = pure (.type "method_descriptor")) (hm : MtR X id r) (hi : ImM X.K X.mg o r) (ho : PD X Wx ob f) (ha : PDA X Wx (e :: es) g)
    (hbase : attributeBase ob name X.env (eval ob X.env) = eval ob X.env := by rfl)
    (hfew : ((backTo cpos (starEach (e :: es) X.env)).all (fun x => !x.1) && (backToKw cpos (keywordEach [] X.env)).all (fun x => x.1.isSome)
      && decide ((e :: es).length + ([] : List Keyword).length + (if ([] : List Keyword).isEmpty then 0 else 1) < 30)) = true := by rfl)
    (hline : (apos.endLine == cpos.line) = true := by rfl) (hs : starEach (e :: es) X.env = (false, eval e X.env) :: starEach es X.env := by rfl) (hplain : (backTo cpos (starEach es X.env)).any (·.1) = false := by rfl) :
    PD X Wx (.Call (.Attribute ob name apos) (e :: es) [] cpos) (dBM T o f g) :=
  pe_mono (pe_bm pa slot hty hm ho ha hbase hfew hline hs hplain) fun σ H Q ⟨w, ρ, s, env, run⟩ => ⟨w, ρ, s, env, run.bind fun w1 x v1 H1 s1 le1 r1 run1 => by
    obtain ⟨ty, run2⟩ := tyM_of r1 run1
    exact ⟨ty, w1, ρ, s1, env.mono le1, run2.bind fun w2 y v2 H2 s2 le2 r2 run3 => hi (r1.mono le2) r2 run3⟩⟩
theorem pd_bm0 (pa : PlainAttrs T) (slot : Slot T name id) (hty : typeOf (.builtin id) = pure (.type "method_descriptor")) (hm : MtR X id r) (hi : ImM X.K X.mg o r) (ho : PD X Wx ob f)
    (hbase : attributeBase ob name X.env (eval ob X.env) = eval ob X.env := by rfl) (hline : (apos.endLine == cpos.line) = true := by rfl) : PD X Wx (.Call (.Attribute ob name apos) [] [] cpos) (dBM0 T o f) :=
  pe_mono (pe_bm0 pa slot hty hm ho hbase hline) fun σ H Q ⟨w, ρ, s, env, run⟩ => ⟨w, ρ, s, env, run.bind fun w1 x v1 H1 s1 le1 r1 run1 => by
    obtain ⟨ty, run2⟩ := tyM_of r1 run1
    exact ⟨ty, hi r1 .nil run2⟩⟩
end
def mAppend : D → List D → M D
  | .ref a, [y] => bnd (look a) fun c => match c with
    | .lst xs => if xs.length < CAP then bnd (put a (.lst (xs ++ [y]))) fun _ => ret .non else stuck
    | _ => stuck
  | _, _ => stuck
def mExtend : D → List D → M D
  | .ref a, [.lst ys] => bnd (look a) fun c => match c with
    | .lst xs => if xs.length + ys.length ≤ CAP then bnd (put a (.lst (xs ++ ys))) fun _ => ret .non else stuck
    | _ => stuck
  | _, _ => stuck
theorem im_append : ImM K mg mAppend rAppend := fun {Wx w s σ H x vx xs vs Q} rx rxs run => by
  cases rx <;> first
    | exact run.no
    | skip
  next a p q =>
    cases rxs with
    | nil => exact run.no
    | cons ry rr =>
      cases rr with
      | cons _ _ => exact run.no
      | nil =>
        obtain ⟨c, o, e1, e2, r, run⟩ := Run.look q run
        cases c <;> first
          | exact run.no
          | skip
        next xs =>
          obtain ⟨vs, rfl, r⟩ := r.lst_of
          obtain ⟨hz, run⟩ := Run.guard (C := xs.length < CAP) run
          exact ⟨_, vs, _, rfl, rfl, e2, by rw [← r.length]; exact capL hz, (Run.put (d := .lst (xs ++ [_])) (o := .lst (vs ++ [_])) q (r.append (.cons ry .nil)) run).here .non⟩
theorem im_extend : ImM K mg mExtend rExtend := fun {Wx w s σ H x vx xs vs Q} rx rxs run => by
  cases rx <;> first
    | exact run.no
    | skip
  next a p q =>
    cases rxs with
    | nil => exact run.no
    | cons ry rr =>
      cases rr with
      | cons _ _ => cases ry <;> exact run.no
      | nil =>
        cases ry <;> first
          | exact run.no
          | skip
        next b ys us qb rb =>
          obtain ⟨c, o, e1, e2, r, run⟩ := Run.look q run
          cases c <;> first
            | exact run.no
            | skip
          next xs =>
            obtain ⟨vs, rfl, r⟩ := r.lst_of
            obtain ⟨hz, run⟩ := Run.guard (C := xs.length + ys.length ≤ CAP) run
            exact ⟨_, _, vs, us, rfl, rfl, e2, run.1.ex _ _ qb, cap_line (by rw [← r.length, ← rb.length]; exact hz), (Run.put (d := .lst (xs ++ ys)) (o := .lst (vs ++ us)) q (r.append rb) run).here .non⟩
def mSetdef : D → List D → M D
  | .ref a, [y, z] => bnd (look a) fun c => match dctGet c y with
    | some (some d) => (match c with
      | .dT ks _ => if ks.length < CAP then ret d else stuck
      | .dK ks _ => if ks.length < CAP then ret d else stuck
      | _ => stuck)
    | some none => (match dctPut c y z with
      | some c' => bnd (put a c') fun _ => ret z
      | none => stuck)
    | none => stuck
  | _, _ => stuck
theorem im_setdef : ImM K mg mSetdef rSetdef := fun {Wx w s σ H x vx xs vs Q} rx rxs run => by
  cases rx <;> first
    | exact run.no
    | skip
  next a p q =>
    cases rxs with
    | nil => exact run.no
    | cons ry rr =>
      cases rr with
      | nil => exact run.no
      | cons rz rr2 =>
        cases rr2 with
        | cons _ _ => exact run.no
        | nil =>
          rename_i y vy z vz
          obtain ⟨c, o, e1, e2, r, run⟩ := Run.look q run
          cases e : dctGet c y with
          | none => rw [e] at run; exact run.no
          | some oo =>
            rw [e] at run
            obtain ⟨ov, g, rr⟩ := dctGet_of run.1.ex (r.dAt e2 (dctGet_dct e)) ry e
            cases oo with
            | some d =>
              cases ov with
              | none => exact rr.elim
              | some v =>
                have rr : RD K mg w d v := rr
                cases c <;> first
                  | exact run.no
                  | skip
                · next ks ds =>
                  obtain ⟨kvs, rfl, h2, h3⟩ := r.dT_of
                  obtain ⟨hz, run⟩ := Run.guard (C := ks.length < CAP) run
                  exact ⟨_, _, _, some v, rfl, rfl, g, fun v' e' => (by cases e'; exact run.here rr), fun e' => (by cases e'), .inr ⟨kvs, e2, by rw [← List.length_map (f := (·.1)), h2]; exact capL hz⟩⟩
                · next ks ds =>
                  obtain ⟨kvs, rfl, h2, h3⟩ := r.dK_of
                  obtain ⟨hz, run⟩ := Run.guard (C := ks.length < CAP) run
                  exact ⟨_, _, _, some v, rfl, rfl, g, fun v' e' => (by cases e'; exact run.here rr), fun e' => (by cases e'), .inl ⟨kvs, e2, by rw [← List.length_map (f := (·.1)), h2]; exact capL hz⟩⟩
            | none =>
              cases ov with
              | some v => exact rr.elim
              | none =>
                cases ep : dctPut c y z with
                | none => rw [ep] at run; exact run.no
                | some c' =>
                  rw [ep] at run
                  obtain ⟨o', h1, h2⟩ := dctPut_of run.1.ex r e2 ry rz ep
                  refine ⟨_, _, _, none, rfl, rfl, g, fun v' e' => (by cases e'), fun _ => ⟨_, h1, (run.put q h2).here rz⟩, ?_⟩
                  cases c <;> first
                    | (cases ep; done)
                    | skip
                  · next ks ds =>
                    obtain ⟨kvs, rfl, h2, h3⟩ := r.dT_of
                    unfold dctPut at ep
                    dsimp only at ep
                    split at ep
                    · next hz => exact .inr ⟨kvs, e2, by rw [← List.length_map (f := (·.1)), h2]; exact capL hz.1⟩
                    · cases ep
                  · next ks ds =>
                    obtain ⟨kvs, rfl, h2, h3⟩ := r.dK_of
                    unfold dctPut at ep
                    dsimp only at ep
                    split at ep
                    · next hz => exact .inl ⟨kvs, e2, by rw [← List.length_map (f := (·.1)), h2]; exact capL hz.1⟩
                    · cases ep
section
variable {X : Cx} {Wx : XK} {ob e e2 : Expr} {f : En → M D} {g : En → M (List D)} {apos cpos : Pos}
theorem mtr_of_m {id : String} {r : V → List V → Hp → VK → Prop} (h : MtM X id r) : MtR X id r := h
end

/-! ### {} -/
def dNewT : En → M D := fun _ => mk (.dT [] [])
def dNewK : En → M D := fun _ => mk (.dK [] [])
section
variable {X : Cx} {Wx : XK} {pos : Pos}
theorem pd_newT : PD X Wx (.Dict [] [] pos) dNewT := pe_mono pe_dnewT fun σ H Q ⟨w, ρ, s, env, run⟩ p hp => run.mk hp (o := .dT []) ⟨rfl, .nil⟩
theorem pd_newK : PD X Wx (.Dict [] [] pos) dNewK := pe_mono pe_dnewK fun σ H Q ⟨w, ρ, s, env, run⟩ p hp => run.mk hp (o := .dK []) ⟨rfl, .nil⟩
end

/-! ### o.f = v -/
def putFn (f : Str) : List Str → List Str
  | [] => [f]
  | n :: ns => if n = f then n :: ns else n :: putFn f ns
def putFv (f : Str) (v : D) : List Str → List D → List D
  | n :: ns, d :: ds => if n = f then v :: ds else d :: putFv f v ns ds
  | _, _ => [v]
theorem putF_rel {w : W} {f : Str} {d : D} {v : V} (rd : RD K mg w d v) : ∀ {fs : List (Str × V)} {ns : List Str} {ds : List D}, fs.map (·.1) = ns → RL K mg w ds (fs.map (·.2)) → (putF f v fs).map (·.1) = putFn f ns ∧ RL K mg w (putFv f d ns ds) ((putF f v fs).map (·.2))
  | [], _, _, e, r => by subst e; cases r; exact ⟨rfl, .cons rd .nil⟩
  | (n, u) :: fs, _, _, e, r => by
    subst e
    cases r with
    | cons r1 r2 =>
      rename_i d0 ds
      show (putF f v ((n, u) :: fs)).map (·.1) = (if n = f then n :: fs.map (·.1) else n :: putFn f (fs.map (·.1))) ∧ RL K mg w (if n = f then d :: ds else d0 :: putFv f d (fs.map (·.1)) ds) ((putF f v ((n, u) :: fs)).map (·.2))
      unfold putF
      by_cases hn : n = f
      · rw [if_pos hn, if_pos hn, if_pos hn]
        exact ⟨rfl, .cons rd r2⟩
      · rw [if_neg hn, if_neg hn, if_neg hn]
        obtain ⟨h1, h2⟩ := putF_rel (f := f) rd rfl r2
        exact ⟨by rw [List.map_cons, h1], .cons r1 h2⟩
def stF (cs : List Str) (f : Str) : D → D → M Unit
  | .ref a, z => bnd (look a) fun c => match c with
    | .ins c ns ds => if c ∈ cs ∧ ns.length < 900 then bnd (put a (.ins c (putFn f ns) (putFv f z ns ds))) fun _ => ret () else stuck
    | _ => stuck
  | _, _ => stuck
def dFldS (cs : List Str) (f : Str) (fo fv : En → M D) : En → M Fl := fun ρ => bnd (fv ρ) fun z => bnd (fo ρ) fun x => bnd (stF cs f x z) fun _ => ret (.nx ρ)
theorem stF_of {w : W} {s : S} {σ : L2.St} {H : Hp} {α β : Type} {R : W → α → β → Prop} {Wx : XK} {Q : β → Hp → Prop} {cs : List Str} {f : Str} {x z : D} {vx vz : V} {m : M α} (hf : HasF K mg cs f) (rx : RD K mg w x vx) (rz : RD K mg w z vz) (run : Run K mg R Wx (bnd (stF cs f x z) fun _ => m) w s σ H Q) :
    ∃ a C dx fs s', vx = .ref a ∧ H a = some (.ins C dx fs) ∧ Cls K C ∧ NoAttr K C f ∧ fs.length < 1000 ∧ Run K mg R Wx m w s' σ (upd H a (.ins C dx (putF f vz fs))) Q := by
  cases rx <;> first
    | exact run.no
    | skip
  next a p q =>
    have run : Run K mg R Wx (bnd (bnd (look a) fun c => match c with
      | .ins c ns ds => if c ∈ cs ∧ ns.length < 900 then bnd (put a (.ins c (putFn f ns) (putFv f z ns ds))) fun _ => ret () else stuck
      | _ => stuck) fun _ => m) w s σ H Q := run
    rw [bnd_bnd] at run
    obtain ⟨c, o, e1, e2, r, run⟩ := Run.look q run
    cases c <;> first
      | exact run.no
      | skip
    next c ns ds =>
      obtain ⟨C, dx, fs, rfl, hc, en, r⟩ := r.ins_of
      by_cases hz : c ∈ cs ∧ ns.length < 900
      · dsimp only at run
        rw [if_pos hz, bnd_bnd] at run
        obtain ⟨h3, h4⟩ := hf.cls c hz.1 C hc
        obtain ⟨k1, k2⟩ := putF_rel (f := f) rz en r
        have hl : fs.length < 1000 := by rw [← List.length_map (f := (·.1)), en]; omega
        exact ⟨_, C, dx, fs, _, rfl, e2, h3, h4, hl, Run.put (d := .ins c (putFn f ns) (putFv f z ns ds)) (o := .ins C dx (putF f vz fs)) q ⟨hc, k1, k2⟩ (m := m) run⟩
      · dsimp only at run
        rw [if_neg hz] at run
        exact run.no
theorem pds_fld {X : Cx} {Wx : XK} {o value : Expr} {f : Str} {fo fv : En → M D} {cs : List Str} {pos pos' : Pos} (hf : HasF X.K X.mg cs f) (ho : PD X Wx o fo) (hv : PD X Wx value fv) (hs : swapsWith value (some (.Attribute o f pos')) pos.line X.env = pure false := by rfl) :
    PDS X Wx (.Assign [.Attribute o f pos'] value pos) (dFldS cs f fo fv) :=
  ps_mono (ps_fld ho hv hs) fun D σ H ⟨w, ρ, s, env, run⟩ => ⟨w, ρ, s, env, run.bind fun w1 z vz H1 s1 le1 rz run1 => ⟨w1, ρ, s1, env.mono le1, run1.bind fun w2 x vx H2 s2 le2 rx run2 => by
    obtain ⟨a, C, dx, fs, s3, rfl, h1, h2, h3, h4, run3⟩ := stF_of hf rx (rz.mono le2) run2
    exact ⟨a, C, dx, fs, rfl, h1, h2, h3, h4, Run.here (b := FlV.nx σ) run3 ((env.mono le1).mono le2)⟩⟩⟩

/-! ### a dict locked while an expression runs; its values -/
def lockP (a : Nat) : M Unit := fun s => match s.objs[a]? with
  | some c => (match lckD c with
    | some l => some (.ok (), ⟨s.bases, s.objs.set a l⟩)
    | none => none)
  | none => none
def dLock (i : Nat) (f : En → M D) : En → M D := fun ρ => match ρ[i]? with
  | some (some (.ref a)) => bnd (lockP a) fun _ => f ρ
  | _ => stuck
def tLockP (t : TE) : TE := fun σ H Q => ∃ d u, H d = some u ∧ Mut (some u) ∧ ∀ od, t σ (upd H d (.frz od u)) Q
theorem pe_lockP {X : Cx} {e : Expr} {t : TE} (h : PE X e t) : PE X e (tLockP t) := by
  refine ⟨fun pins s σ H Q I hw => ?_⟩
  obtain ⟨d, u, hd, mu, hw⟩ := hw
  obtain ⟨od, I1⟩ := I.lock hd mu
  exact h.run pins s σ _ Q I1 (hw od)
theorem pd_lock {X : Cx} {Wx : XK} {e : Expr} {f : En → M D} (i : Nat) (h : PD X Wx e f) : PD X Wx e (dLock i f) := pe_mono (pe_lockP h) fun σ H Q ⟨w, ρ, s, env, run⟩ => by
  unfold dLock at run
  split at run
  · next a hρ =>
    obtain ⟨v, hv, rv⟩ := env.2 i _ hρ
    cases rv
    next p q =>
      obtain ⟨st, rr, s', e, pp⟩ := run
      unfold bnd lockP at e
      cases hc : s.objs[a]? with
      | none => rw [hc] at e; cases e
      | some c =>
        rw [hc] at e
        dsimp only at e
        cases hl : lckD c with
        | none => rw [hl] at e; cases e
        | some l =>
          rw [hl] at e
          obtain ⟨o, h1, h2⟩ := st.obj a c p hc q
          refine ⟨p, o, h1, (h2.lock (od := default) hl).2.2.2, fun od => ?_⟩
          obtain ⟨st2, le2⟩ := st.lock (od := od) q hc h1 h2 hl
          refine ⟨_, ρ, _, env.mono le2, st2, rr, s', e, ?_⟩
          cases rr with
          | ok d => exact fun w' b H' le => pp w' b H' (le2.trans le)
          | error x => exact fun w' c d H' le => pp w' c d H' (le2.trans le)
  · exact run.no
def oVals : D → M Wl
  | .ref a => bnd (look a) fun c => match c with
    | .lckT ks ds => ret ⟨ds, fun _ => True⟩
    | .lckK ks ds => ret ⟨ds, fun _ => True⟩
    | _ => stuck
  | .lckT ks ds => ret ⟨ds, fun _ => True⟩
  | .lckK ks ds => ret ⟨ds, fun _ => True⟩
  | _ => stuck
def dItV (f : En → M D) : En → M Wl := fun ρ => bnd (f ρ) oVals
theorem wk_vals {w : W} {ds : List D} {d : Addr} {o : Obj} {vs : List V} (h : ∀ w', w.le0 w' → LkV w'.F d o vs) (r : RL K mg w ds vs) : Wk K mg w ⟨ds, fun _ => True⟩ (Itv d o vs) := by
  have up : ∀ w' s H, w.le0 w' → Sto K mg w' s H → LkV H d o vs := fun w' s H le st => by
    rcases h w' le with ⟨kvs, h1, h2⟩ | ⟨kvs, h1, h2⟩
    · exact .inl ⟨kvs, st.ex _ _ h1, h2⟩
    · exact .inr ⟨kvs, st.ex _ _ h1, h2⟩
  refine ⟨fun w' s H i le st _ hi => ⟨up w' s H le st, ?_⟩, fun w' s H i x H' d le st _ hd y => ?_, fun w' s H le st _ => ⟨up w' s H le st, ?_⟩⟩
  · have hi : i < ds.length := hi
    rw [← r.length]
    exact hi
  · obtain ⟨rfl, hx⟩ := y
    obtain ⟨v, hv, rv⟩ := r.get hd
    rw [hx] at hv
    cases hv
    exact ⟨w', W.le.refl _, st, rv.mono0 le⟩
  · rw [← r.length]
    exact Nat.le_refl _
theorem pdi_vals {X : Cx} {Wx : XK} {tg e : Expr} {f : En → M D} {apos cpos : Pos} (he : PD X Wx e f) (hbase : attributeBase e "values" X.env (eval e X.env) = eval e X.env := by rfl) (hline : (apos.endLine == cpos.line) = true := by rfl) :
    PDI X Wx tg (.Call (.Attribute e "values" apos) [] [] cpos) (dItV f) :=
  pi_mono (pi_valsG he hbase hline) fun σ H R ⟨w, ρ, s, env, run⟩ => ⟨w, ρ, s, env, run.bind fun w1 x v1 H1 s1 le1 r1 run1 => by
    have fr : ∀ {w : W} {a : Addr} {o : HO}, w.F a = some o → ∀ w', w.le0 w' → w'.F a = some o := fun h w' le => le.sm _ _ h
    cases r1 <;> first
      | exact run1.no
      | skip
    · next a o ks ds kvs q ek r => exact ⟨a, o, _, rfl, .inl ⟨kvs, run1.1.ex _ _ q, rfl⟩, Run.here run1 (wk_vals (fun w' le => .inl ⟨kvs, fr q w' le, rfl⟩) r)⟩
    · next a o ks ds kvs q ek r => exact ⟨a, o, _, rfl, .inr ⟨kvs, run1.1.ex _ _ q, rfl⟩, Run.here run1 (wk_vals (fun w' le => .inr ⟨kvs, fr q w' le, rfl⟩) r)⟩
    · next a p q =>
      have run2 : Run X.K X.mg (Wk X.K X.mg) Wx (bnd (look a) fun c => match c with
        | .lckT ks ds => ret (⟨ds, fun _ => True⟩ : Wl)
        | .lckK ks ds => ret ⟨ds, fun _ => True⟩
        | _ => stuck) w1 s1 σ H1 R := run1
      obtain ⟨c, o, e1, e2, r, run3⟩ := Run.look q run2
      cases c <;> first
        | exact run3.no
        | skip
      · next ks ds =>
        rcases run3.1.off _ _ _ e1 q with ⟨_, u, hu⟩ | ⟨h, _⟩
        · have := run3.1.ex _ _ hu
          rw [e2] at this
          cases this
          cases o <;> first
            | (exact r.elim; done)
            | skip
          rename_i ob uu
          cases uu <;> first
            | (exact r.elim; done)
            | skip
          rename_i kvs
          exact ⟨_, ob, _, rfl, .inl ⟨kvs, e2, rfl⟩, Run.here run3 (wk_vals (fun w' le => .inl ⟨kvs, fr hu w' le, rfl⟩) r.2)⟩
        · cases h
      · next ks ds =>
        rcases run3.1.off _ _ _ e1 q with ⟨_, u, hu⟩ | ⟨h, _⟩
        · have := run3.1.ex _ _ hu
          rw [e2] at this
          cases this
          cases o <;> first
            | (exact r.elim; done)
            | skip
          rename_i ob uu
          cases uu <;> first
            | (exact r.elim; done)
            | skip
          rename_i kvs
          exact ⟨_, ob, _, rfl, .inr ⟨kvs, e2, rfl⟩, Run.here run3 (wk_vals (fun w' le => .inr ⟨kvs, fr hu w' le, rfl⟩) r.2)⟩
        · cases h⟩
end DS
/-! DS8: defs, calls, instances -/
namespace DS
open PySem L2 PySem.Spec PyProof.Rows

structure RoomG (k : Nat) (A : Around) : Prop where
  r : Room k A
  g : A.guards = some []
theorem RoomG.mono {j k : Nat} {A : Around} (r : RoomG k A) (h : j ≤ k) : RoomG j A := ⟨r.r.mono h, r.g⟩
theorem RoomG.deeper {k : Nat} {A : Around} (r : RoomG (k + 1) A) (env : Env) : RoomG k (A.deeper env) := ⟨r.r.deeper env, r.g⟩
theorem RoomG.make {k : Nat} {A : Around} (r : RoomG (k + 1) A) (C : Addr) (us : List Value) (kw : List (Str × Value)) : RoomG k (A.under (.builtin "type.__call__" ⟨.ref C :: us, kw⟩)) :=
  ⟨r.r.make C us kw, by first | exact r.g | (simpa [Around.under, Code.guards, pushGuards, Code.isGuard, guardIds] using r.g)⟩
structure FnG (P : Program) (w : World) (K : PySem.W.Frag) (mg : Str → Option Value) (base : Heap) (CX : CXT) (k : Nat) (f : Addr) (fd : FuncData) (ps : List Str) (sp : Sp) : Prop where
  len : ∀ vs H Q E, sp vs H Q E → vs.length = ps.length
  run : ∀ (A : Around) (outer : List Env) (s : Shared) (H : Hp) (args : Args) (us : List Value) (vs : List V) (Q : VK) (E : XK), RoomG k A → Env0 P w K mg base A outer s H → BindsTo s fd args (ps.zip us) → Vals vs us → sp vs H Q E →
    codeAny (model P w) A (.call (.ref f) args) (CR CX outer P w H s Q E) s
theorem FnG.mono {P : Program} {w : World} {K : PySem.W.Frag} {mg : Str → Option Value} {base : Heap} {CX : CXT} {j k : Nat} {f : Addr} {fd : FuncData} {ps : List Str} {sp : Sp} (F : FnG P w K mg base CX j f fd ps sp) (h : j ≤ k) :
    FnG P w K mg base CX k f fd ps sp := ⟨F.len, fun A outer s H args us vs Q E hr => F.run A outer s H args us vs Q E (hr.mono h)⟩
/-- a def by its body -/
theorem fnG_of {CX : CXT} {P : Program} {w : World} {K : PySem.W.Frag} {mg : Str → Option Value} {base : Heap} {k : Nat} {f : Addr} {name qual : Str} {params : Arguments} {body : List Stmt} {scope : Scope} {dV kV doc pm cdv ct oc : Value} {an od : Option Addr}
    {osl : Array (Option Value)} {N ps : List Str} {sp : Sp} (lk : K.lookup f = some ⟨oc, od, .func (PySem.W.fnOf name qual params body scope dV kV doc pm an cdv ct), osl⟩) (hcd : PySem.W.codeIn K cdv qual = true) (S : FnScope N ps scope)
    (len : ∀ vs H Q E, sp vs H Q E → vs.length = ps.length)
    (hbody : ∀ (A : Around) (outer : List Env) (s : Shared) (H : Hp) (vs : List V) (Q : VK) (E : XK), RoomG k (A.deeper (envOfC qual scope s.heap.objs.size f cdv)) → sp vs H Q E →
      ∃ t, PSs (cxOf CX P w K mg base N qual scope f cdv A outer s H E) body t ∧ t { nx := fun _ H' => Q .non H', rt := Q } (start N vs) H) :
    FnG P w K mg base CX (k + 1) f (PySem.W.fnOf name qual params body scope dV kV doc pm an cdv ct) ps sp := by
  refine ⟨len, fun A outer s H args us vs Q E hr e0 hb r hsp => ?_⟩
  have hl := len _ _ _ _ hsp
  have KX : K.In s.heap := e0.mod.kin.keeps fun b o e => (e0.bs b o e).1
  have lim : s.heap.NoLimit := e0.mod.nolimit.keeps fun b o e => (e0.bs b o e).1
  have hkind : ∀ y ∈ ps.zip us, scope.names.lookup y.1 = some .local ∨ (scope.names.lookup y.1 = some .cell ∧ ((cellsFrom (s.heap.objs.size + 1) scope.names []).lookup y.1).isSome = true) := fun ⟨n, v⟩ hy => by
    rcases S.par n (List.of_mem_zip hy).1 with q | q
    · exact .inl q
    · exact .inr ⟨q, PySem.W.cellsFrom_some _ _ _ (.inl q)⟩
  refine codeAny_call_function hr.r.depth (KX _ _ lk) rfl S.co S.gen rfl (PySem.W.codeRec_of KX hcd) (hb _ _ _ _ ?_)
  refine wpAny_newFunctionEnv_cells S.kind hkind fun env he s1 x => ?_
  subst he
  refine ⟨lim.keeps x.toInCall.keep, codeAny_func ?_⟩
  obtain ⟨t, ht, hq⟩ := hbody A outer s H vs Q E (hr.deeper _) hsp
  have I : Inv (cxOf CX P w K mg base N qual scope f cdv A outer s H E) [] (start N vs) H s1 := inv_start S hr.r.hd e0 hl r x
  refine wpAny_mono (ht.run [] s1 (start N vs) H _ I hq) (fun fl s' hs => ?_) fun e s' hs => hs
  have fin : ∀ {σ' : L2.St} {H' : Hp} {v : V} {u : Value}, Inv (cxOf CX P w K mg base N qual scope f cdv A outer s H E) [] σ' H' s' → RelV v u → Q v H' → CE outer P w H s Q u s' :=
    fun {σ' H' v u} J rv q => ⟨v, H', J.os, J.bare, J.base, J.hok, rv, q⟩
  cases fl with
  | ret u =>
    obtain ⟨v, σ', H', J, rv, q⟩ := hs
    exact fin J rv q
  | next =>
    obtain ⟨σ', H', J, q⟩ := hs
    exact fin (v := V.non) (u := Value.none) J rfl q
  | brk =>
    obtain ⟨_, _, _, q⟩ := hs
    exact False.elim q
  | cont =>
    obtain ⟨_, _, _, q⟩ := hs
    exact False.elim q

section
variable {X : Cx} {CX : CXT} {k : Nat} {f C : Addr} {fd : FuncData} {ps ks : List Str} {sp : Sp} {dvs : List V} {ds : List Value} {E : XK} {x m : Str} {p pos apos : Pos} {e o : Expr} {es : List Expr} {kws : List Keyword} {ta : TE} {t tk : TA}
theorem runG_fn {pins : List (Addr × Obj)} {σ : L2.St} {H : Hp} {s : Shared} {Q : VK} {us : List Value} {vs : List V} (F : FnG X.prog X.w X.K X.mg X.base CX k f fd ps sp) (hr : RoomG k X.A) (hb : Binds X.K fd ps ds) (hd : Vals dvs ds) (hx : Passes CX X E)
    (I : Inv X pins σ H s) (r : Vals vs us) (h : sp (vs ++ dvs) H Q E) : wpAny (model X.prog X.w) X.A (call (.ref f) us) (EP X pins σ Q) X.xe s := by
  have r2 : Vals (vs ++ dvs) (us ++ ds) := r.append hd
  have hl : (us ++ ds).length = ps.length := by rw [← r2.length]; exact F.len _ _ _ _ h
  refine wpAny_call (codeAny_mono (F.run X.A X.stack s H ⟨us, []⟩ (us ++ ds) (vs ++ dvs) Q E hr I.env0 (hb s us I.kIn hl) r2 h) fun r s' hq => ?_)
  cases r with
  | error e => exact hx pins σ H s e s' I hq
  | ok fl =>
    cases fl with
    | ret u => exact I.after hq
    | next => exact False.elim hq
    | brk => exact False.elim hq
    | cont => exact False.elim hq
theorem pe_callG (F : FnG X.prog X.w X.K X.mg X.base CX k f fd ps sp) (hr : RoomG k X.A) (hg : Gl X x) (hm : X.mg x = some (.ref f)) (hk : PySem.W.keepIn X.K (.ref f) = true) (hb : Binds X.K fd ps ds) (hd : Vals dvs ds) (hx : Passes CX X E)
    (ha : PA X (e :: es) t) (hdb : (x == ("__debug__" : Str)) = false := by decide) (he : starEach (e :: es) X.env = (false, eval e X.env) :: starEach es X.env := by rfl) (hpl : (backTo pos (starEach es X.env)).any (·.1) = false := by rfl) :
    PE X (.Call (.Name x p) (e :: es) [] pos) (tCall sp dvs E t) := by
  refine ⟨fun pins s σ H Q I h => ?_⟩
  refine wpAny_Call_Name_kw (ld_glob I hg hm ?_ hdb)
  refine PySem.W.callWith_K (h₀ := X.base) I.ok.mod.kin hk (thn (ha.run pos pins s σ H _ I h) fun us s1 ⟨vs, H1, I1, r, q⟩ => ⟨I1.kIn, ?_⟩) he hpl
  exact runG_fn F hr hb hd hx I1 r q
theorem pe_callG0 (F : FnG X.prog X.w X.K X.mg X.base CX k f fd ps sp) (hr : RoomG k X.A) (hg : Gl X x) (hm : X.mg x = some (.ref f)) (hk : PySem.W.keepIn X.K (.ref f) = true) (hb : Binds X.K fd ps ds) (hd : Vals dvs ds) (hx : Passes CX X E)
    (hdb : (x == ("__debug__" : Str)) = false := by decide) : PE X (.Call (.Name x p) [] [] pos) (tCall sp dvs E tNil) := by
  refine ⟨fun pins s σ H Q I h => ?_⟩
  refine wpAny_Call_Name_kw (ld_glob I hg hm ?_ hdb)
  exact PySem.W.callWith_K0 I.kIn hk (runG_fn (us := []) F hr hb hd hx I .nil h)
theorem pe_methG {pl : Sem Bool} (he : PE X o ta) (c : Cls X.K C) (hm : Meth X.K C m f) (F : FnG X.prog X.w X.K X.mg X.base CX k f fd ps sp) (hr : RoomG k X.A) (hb : Binds X.K fd ps ds) (hd : Vals dvs ds) (hx : Passes CX X E) (ha : PA X (e :: es) t)
    (hst : starEach (e :: es) X.env = (false, eval e X.env) :: starEach es X.env := by rfl) (hpl : (backTo pos (starEach es X.env)).any (·.1) = false := by rfl)
    (ht : eval (.Call (.Attribute o m apos) (e :: es) [] pos) X.env = (do
      let ov ← eval o X.env
      standAt apos.atName
      let (f, first) ← holding [ov] (getMethod ov m pl)
      callWith pos f first (backTo pos (starEach (e :: es) X.env)) (backToKw pos (keywordEach [] X.env))) := by rfl) :
    PE X (.Call (.Attribute o m apos) (e :: es) [] pos) (tMeth C m sp dvs E ta t) := by
  refine ⟨fun pins s σ H Q I h => ?_⟩
  refine PySem.W.methodCall_KW (pl := pl) (thn (he.run pins s σ H _ I h) fun u s1 ⟨x, H1, I1, rx, a, dx, fs, ex, ea, l, q⟩ => ?_) ht
  subst ex
  obtain rfl : u = Value.ref a := rx
  refine getmeth_ok I1 ea c hm l ?_
  refine PySem.W.callWith_K (first := [.ref a]) (h₀ := X.base) I.ok.mod.kin hm.kp (thn (ha.run pos pins s1 σ H1 _ I1 q) fun us s2 ⟨vs, H2, I2, r, q2⟩ => ⟨I2.kIn, ?_⟩) hst hpl
  exact runG_fn (us := .ref a :: us) (vs := .ref a :: vs) F hr hb hd hx I2 (.cons rfl r) q2
theorem pe_methG0 {pl : Sem Bool} (he : PE X o ta) (c : Cls X.K C) (hm : Meth X.K C m f) (F : FnG X.prog X.w X.K X.mg X.base CX k f fd ps sp) (hr : RoomG k X.A) (hb : Binds X.K fd ps ds) (hd : Vals dvs ds) (hx : Passes CX X E)
    (ht : eval (.Call (.Attribute o m apos) [] [] pos) X.env = (do
      let ov ← eval o X.env
      standAt apos.atName
      let (f, first) ← holding [ov] (getMethod ov m pl)
      callWith pos f first (backTo pos (starEach [] X.env)) (backToKw pos (keywordEach [] X.env))) := by rfl) :
    PE X (.Call (.Attribute o m apos) [] [] pos) (tMeth C m sp dvs E ta tNil) := by
  refine ⟨fun pins s σ H Q I h => ?_⟩
  refine PySem.W.methodCall_KW (pl := pl) (thn (he.run pins s σ H _ I h) fun u s1 ⟨x, H1, I1, rx, a, dx, fs, ex, ea, l, q⟩ => ?_) ht
  subst ex
  obtain rfl : u = Value.ref a := rx
  refine getmeth_ok I1 ea c hm l ?_
  exact PySem.W.callWith_K0 (first := [.ref a]) I1.kIn hm.kp (runG_fn (us := [.ref a]) (vs := [.ref a]) F hr hb hd hx I1 (.cons rfl .nil) q)
theorem runG_make {pins : List (Addr × Obj)} {σ : L2.St} {H : Hp} {s : Shared} {Q : VK} {us : List Value} {vs : List V} (M : Mk X.K C f) (F : FnG X.prog X.w X.K X.mg X.base CX k f fd ps sp) (hr : RoomG (k + 1) X.A) (hb : Binds X.K fd ps ds) (hd : Vals dvs ds)
    (hx : Passes CX X E) (I : Inv X pins σ H s) (r : Vals vs us)
    (h : ∀ x dx, H x = none → H dx = none → dx ≠ x → sp (.ref x :: (vs ++ dvs)) (upd (upd H dx (.own x)) x (.ins C dx [])) (fun v H2 => v = .non ∧ Q (.ref x) H2) E) :
    wpAny (model X.prog X.w) X.A (call (.ref C) us) (EP X pins σ Q) X.xe s := by
  have hq := h (s.heap.objs.size + 1) s.heap.objs.size (I.hok.fresh (Nat.le_succ _)) (I.hok.fresh (Nat.le_refl _)) (Nat.ne_of_lt (Nat.lt_succ_self _))
  have I2 := Inv.made (C := C) I
  have r2 : Vals (V.ref (s.heap.objs.size + 1) :: (vs ++ dvs)) (Value.ref (s.heap.objs.size + 1) :: (us ++ ds)) := .cons rfl (r.append hd)
  have hl : (Value.ref (s.heap.objs.size + 1) :: us ++ ds).length = ps.length := by
    have e := r2.length
    rw [F.len _ _ _ _ hq] at e
    exact e.symm
  refine wpAny_call (make_map (f := f) I.kIn M.makes M.init (beq_iff_eq.mp M.fn) (codeAny_mono (F.run _ X.stack _ _ ⟨Value.ref (s.heap.objs.size + 1) :: us, []⟩ (Value.ref (s.heap.objs.size + 1) :: (us ++ ds)) _ _ E (hr.make C us [])
    (I2.env0.make C us []) (hb _ (Value.ref (s.heap.objs.size + 1) :: us) I2.kIn hl) r2 hq) fun r s' hq' => ?_))
  cases r with
  | error e => exact hx pins σ _ _ e s' I2 hq'
  | ok fl =>
    cases fl with
    | ret u =>
      obtain ⟨v, H', I3, rv, ev, q3⟩ := I2.after hq'
      subst ev
      exact ⟨rv, ⟨V.ref (s.heap.objs.size + 1), H', I3, rfl, q3⟩⟩
    | next => exact False.elim hq'
    | brk => exact False.elim hq'
    | cont => exact False.elim hq'
theorem pe_makeG (M : Mk X.K C f) (F : FnG X.prog X.w X.K X.mg X.base CX k f fd ps sp) (hr : RoomG (k + 1) X.A) (hg : Gl X x) (hm : X.mg x = some (.ref C)) (hb : Binds X.K fd ps ds) (hd : Vals dvs ds) (hx : Passes CX X E)
    (ha : PA X (e :: es) t) (hdb : (x == ("__debug__" : Str)) = false := by decide) (he : starEach (e :: es) X.env = (false, eval e X.env) :: starEach es X.env := by rfl) (hpl : (backTo pos (starEach es X.env)).any (·.1) = false := by rfl) :
    PE X (.Call (.Name x p) (e :: es) [] pos) (tMake C sp dvs E t) := by
  refine ⟨fun pins s σ H Q I h => ?_⟩
  refine wpAny_Call_Name_kw (ld_glob I hg hm ?_ hdb)
  refine PySem.W.callWith_K (h₀ := X.base) I.ok.mod.kin M.kp (thn (ha.run pos pins s σ H _ I h) fun us s1 ⟨vs, H1, I1, r, q⟩ => ⟨I1.kIn, ?_⟩) he hpl
  exact runG_make M F hr hb hd hx I1 r q
variable {g : List Value → List Value → List Value} {gV : List V → List V → List V}
theorem runG_fnk {pins : List (Addr × Obj)} {σ : L2.St} {H : Hp} {s : Shared} {Q : VK} {us ws : List Value} {vs zs : List V} (F : FnG X.prog X.w X.K X.mg X.base CX k f fd ps sp) (hr : RoomG k X.A) (hb : KBinds X.K fd ps ks g gV) (hx : Passes CX X E)
    (I : Inv X pins σ H s) (r : Vals vs us) (rz : Vals zs ws) (h : sp (gV vs zs) H Q E) : wpAny (model X.prog X.w) X.A (call (.ref f) us (ks.zip ws)) (EP X pins σ Q) X.xe s := by
  have r2 := hb.rel r rz
  have hl : (g us ws).length = ps.length := by rw [← r2.length]; exact F.len _ _ _ _ h
  refine wpAny_call (codeAny_mono (F.run X.A X.stack s H ⟨us, ks.zip ws⟩ (g us ws) (gV vs zs) Q E hr I.env0 (hb.to s us ws I.kIn hl) r2 h) fun r s' hq => ?_)
  cases r with
  | error e => exact hx pins σ H s e s' I hq
  | ok fl =>
    cases fl with
    | ret u => exact I.after hq
    | next => exact False.elim hq
    | brk => exact False.elim hq
    | cont => exact False.elim hq
theorem pe_callGK (F : FnG X.prog X.w X.K X.mg X.base CX k f fd ps sp) (hr : RoomG k X.A) (hg : Gl X x) (hm : X.mg x = some (.ref f)) (hk : PySem.W.keepIn X.K (.ref f) = true) (hb : KBinds X.K fd ps ks g gV) (hx : Passes CX X E)
    (ha : PA X (e :: es) t) (hkw : PK X kws tk) (hall : (backToKw pos (keywordEach kws X.env)).all (·.1.isSome) = true := by rfl) (hks : (backToKw pos (keywordEach kws X.env)).filterMap (·.1) = ks := by rfl)
    (hdb : (x == ("__debug__" : Str)) = false := by decide) (he : starEach (e :: es) X.env = (false, eval e X.env) :: starEach es X.env := by rfl)
    (hpl : ((backTo pos (starEach (e :: es) X.env)).any (·.1) || (backToKw pos (keywordEach kws X.env)).any (·.1.isNone)) = false := by rfl) :
    PE X (.Call (.Name x p) (e :: es) kws pos) (tCallK sp gV E t tk) := by
  refine ⟨fun pins s σ H Q I h => ?_⟩
  refine wpAny_Call_Name_kw (ld_glob I hg hm ?_ hdb)
  refine PySem.W.callWith_KW (h₀ := X.base) I.ok.mod.kin hk hall (thn (ha.run pos pins s σ H _ I h) fun us s1 ⟨vs, H1, I1, r, q⟩ => ?_) hpl he
  refine thn (hkw.run pos pins s1 σ H1 _ I1 q) fun ws s2 ⟨zs, H2, I2, rz, q2⟩ => ⟨I2.kIn, ?_⟩
  rw [hks]
  exact runG_fnk F hr hb hx I2 r rz q2
end
end DS
/-! DS9: frames, calls by value, the law -/
namespace DS
open PySem L2 PySem.Spec PyProof.Rows
variable {K : PySem.W.Frag} {mg : Str → Option Value}

def startD (N : Nat) (ds : List D) : En := ds.map some ++ List.replicate (N - ds.length) none
def endV : Fl → Option D
  | .nx _ => some .non
  | .rt d => some d
  | _ => none
/-- a def's frame: what it made is frozen at its end -/
def frmF (n N : Nat) (b : En → M Fl) : List D → M D := fun ds s => if ds.length = n then
    match b (startD N ds) ⟨s.objs.length :: s.bases, s.objs⟩ with
    | some (.ok fl, s') => (match endV fl with
      | some d => if s'.bases = s.objs.length :: s.bases then (match fz s.objs.length s'.objs d with
        | some d' => some (.ok d', ⟨s.bases, s'.objs.take s.objs.length⟩)
        | none => none) else none
      | none => none)
    | _ => none
  else none
/-- .. all it made stays -/
def frmK (n N : Nat) (b : En → M Fl) : List D → M D := fun ds s => if ds.length = n then
    match b (startD N ds) s with
    | some (.ok fl, s') => (match endV fl with
      | some d => some (.ok d, s')
      | none => none)
    | _ => none
  else none
theorem EnR.start {w : W} {N : List Str} {ds : List D} {vs : List V} (r : RL K mg w ds vs) : EnR K mg w (startD N.length ds) (L2.start N vs) := by
  refine ⟨by simp [startD, L2.start, r.length], fun i d e => ?_⟩
  unfold startD at e
  unfold L2.start
  by_cases hi : i < ds.length
  · rw [List.getElem?_append_left (by simpa using hi), List.getElem?_map] at e
    obtain ⟨d', e1, e2⟩ := Option.map_eq_some_iff.mp e
    cases e2
    obtain ⟨v, h1, h2⟩ := r.get e1
    exact ⟨v, by rw [List.getElem?_append_left (by rw [List.length_map, ← r.length]; exact hi), List.getElem?_map, h1]; rfl, h2⟩
  · rw [List.getElem?_append_right (by simpa using hi), List.getElem?_replicate] at e
    split at e <;> cases e
def spD (K : PySem.W.Frag) (mg : Str → Option Value) (n : Nat) (F : List D → M D) : Sp := fun vs H Q _ => vs.length = n ∧ ∃ w s ds σ, RL K mg w ds vs ∧ Run K mg (RD K mg) WF (F ds) w s σ H Q
section
variable {P : Program} {w : World} {base : Heap} {x qual : Str} {params : Arguments} {body : List Stmt} {scope : Scope} {dvs : List V} {kws : List (Str × V)} {f : Addr} {fd : FuncData} {N ps : List Str} {k : Nat} {b : En → M Fl}
theorem prefix_cut {w0 w1 : W} (h : w0.le w1) : w0.le (w1.cut w0.α.length) := by
  refine ⟨⟨h.sm, ?_⟩, h.hd⟩
  obtain ⟨t, e⟩ := h.pf
  show w0.α <+: w1.α.take w0.α.length
  rw [← e, List.take_left]
  exact List.prefix_refl _
/-- a def by its body: frozen at its end -/
theorem fd_F (F : FunD K x qual params body scope dvs kws f fd) (S : FnScope N ps scope)
    (hb : ∀ (cdv : Value) (A : Around) (outer : List Env) (s : Shared) (H : Hp) (E : XK), RoomG k (A.deeper (envOfC qual scope s.heap.objs.size f cdv)) → PDSs (cxOf L2.CX0 P w K mg base N qual scope f cdv A outer s H E).nox WF body b) :
    FnG P w K mg base L2.CX0 (k + 1) f fd ps (spD K mg ps.length (frmF ps.length N.length b)) := by
  obtain ⟨oc, od, dV, kV, doc, pm, an, cdv, ct, osl, rfl, lk, hcd, _, _⟩ := F.ex
  refine fnG_of lk hcd S (fun vs H Q E h => h.1) fun A outer s H vs Q E hr hsp => ?_
  obtain ⟨hl, w0, s0, ds, σ, r, st, rr, s', e, p⟩ := hsp
  refine ⟨_, (hb cdv A outer s H E hr).nox, w0, startD N.length ds, ⟨s0.objs.length :: s0.bases, s0.objs⟩, EnR.start r, ?_⟩
  unfold frmF at e
  rw [if_pos (by rw [r.length]; exact hl)] at e
  split at e
  · next fl s1 eb =>
    split at e
    · next d ed =>
      split at e
      · next hbs =>
        split at e
        · next d' ef =>
          cases e
          refine ⟨st.push, _, _, eb, fun w1 fv H1 le1 r1 st1 => ?_⟩
          have fin : ∀ v, RD K mg w1 d v → Q v H1 := fun v rv => by
            obtain ⟨bs1, os1⟩ := s1
            cases hbs
            obtain ⟨w2, st2, le2, r2⟩ := st1.fin rv ef
            exact p w2 v H1 ((by rw [st.len]; exact prefix_cut le1 : w0.le (w1.cut s0.objs.length)).trans le2) r2 st2
          cases fl <;> cases fv <;> first
            | exact r1.elim
            | (cases ed; done)
            | skip
          · cases ed
            exact fin .non .non
          · cases ed
            exact fin _ r1
        · cases e
      · cases e
    · cases e
  · cases e
/-- .. all it made stays -/
theorem fd_K (F : FunD K x qual params body scope dvs kws f fd) (S : FnScope N ps scope)
    (hb : ∀ (cdv : Value) (A : Around) (outer : List Env) (s : Shared) (H : Hp) (E : XK), RoomG k (A.deeper (envOfC qual scope s.heap.objs.size f cdv)) → PDSs (cxOf L2.CX0 P w K mg base N qual scope f cdv A outer s H E).nox WF body b) :
    FnG P w K mg base L2.CX0 (k + 1) f fd ps (spD K mg ps.length (frmK ps.length N.length b)) := by
  obtain ⟨oc, od, dV, kV, doc, pm, an, cdv, ct, osl, rfl, lk, hcd, _, _⟩ := F.ex
  refine fnG_of lk hcd S (fun vs H Q E h => h.1) fun A outer s H vs Q E hr hsp => ?_
  obtain ⟨hl, w0, s0, ds, σ, r, st, rr, s', e, p⟩ := hsp
  refine ⟨_, (hb cdv A outer s H E hr).nox, w0, startD N.length ds, s0, EnR.start r, ?_⟩
  unfold frmK at e
  rw [if_pos (by rw [r.length]; exact hl)] at e
  split at e
  · next fl s1 eb =>
    split at e
    · next d ed =>
      cases e
      refine ⟨st, _, _, eb, fun w1 fv H1 le1 r1 st1 => ?_⟩
      cases fl <;> cases fv <;> first
        | exact r1.elim
        | (cases ed; done)
        | skip
      · cases ed
        exact p w1 .non H1 le1 .non st1
      · cases ed
        exact p w1 _ H1 le1 r1 st1
    · cases e
  · cases e
end

/-! ### calls -/
/-- an instance of one of the classes, without that field of its own -/
def chkI (cs : List Str) (m : Str) : D → M Unit
  | .ins c ns _ => if c ∈ cs ∧ m ∉ ns then ret () else stuck
  | .ref a => bnd (look a) fun d => match d with
    | .ins c ns _ => if c ∈ cs ∧ m ∉ ns then ret () else stuck
    | _ => stuck
  | _ => stuck
def dCall (F : List D → M D) (dd : List D) (g : En → M (List D)) : En → M D := fun ρ => bnd (g ρ) fun xs => F (xs ++ dd)
/-- the positional values and the keywords' values in the parameters' order -/
def gP0 {α : Type} (perm : List Nat) (us ws : List α) : List α := perm.filterMap fun i => (us ++ ws)[i]?
theorem RL.gP0 {w : W} {ds es : List D} {vs us : List V} (a : RL K mg w ds vs) (b : RL K mg w es us) : ∀ perm : List Nat, RL K mg w (DS.gP0 perm ds es) (DS.gP0 perm vs us)
  | [] => .nil
  | i :: perm => by
    have r := a.append b
    have ih := RL.gP0 a b perm
    unfold DS.gP0 at ih ⊢
    rw [List.filterMap_cons, List.filterMap_cons]
    cases h : (ds ++ es)[i]? with
    | none =>
      have : (vs ++ us)[i]? = none := by
        rw [List.getElem?_eq_none_iff] at h ⊢
        rw [← r.length]
        exact h
      rw [this]
      exact ih
    | some d =>
      obtain ⟨v, h1, h2⟩ := r.get h
      rw [h1]
      exact .cons h2 ih
theorem gP0_vals {vs zs : List V} {us ws : List Value} (a : Vals vs us) (b : Vals zs ws) : ∀ perm : List Nat, Vals (gP0 perm vs zs) (gP0 perm us ws)
  | [] => .nil
  | i :: perm => by
    have r := a.append b
    have ih := gP0_vals a b perm
    unfold gP0 at ih ⊢
    rw [List.filterMap_cons, List.filterMap_cons]
    cases h : (vs ++ zs)[i]? with
    | none =>
      have : (us ++ ws)[i]? = none := by
        rw [List.getElem?_eq_none_iff] at h ⊢
        rw [← r.length]
        exact h
      rw [this]
      exact ih
    | some d =>
      obtain ⟨v, h1, h2⟩ := r.get h
      rw [h1]
      exact .cons h2 ih
/-- how many values are positional; where each parameter's value stands among all -/
abbrev Pm : Type := Nat × List Nat
def gP {α : Type} (perm : Pm) (us ws : List α) : List α := if us.length = perm.1 ∧ us.length + ws.length = perm.2.length then gP0 perm.2 us ws else []
def dCallK (F : List D → M D) (perm : Pm) (g gk : En → M (List D)) : En → M D := fun ρ => bnd (g ρ) fun xs => bnd (gk ρ) fun zs => F (gP perm xs zs)
theorem RL.gP {w : W} {ds es : List D} {vs us : List V} (a : RL K mg w ds vs) (b : RL K mg w es us) (perm : Pm) : RL K mg w (DS.gP perm ds es) (DS.gP perm vs us) := by
  unfold DS.gP
  rw [a.length, b.length]
  split
  · exact RL.gP0 a b _
  · exact .nil
theorem gP_vals {vs zs : List V} {us ws : List Value} (a : Vals vs us) (b : Vals zs ws) (perm : Pm) : Vals (gP perm vs zs) (gP perm us ws) := by
  unfold gP
  rw [a.length, b.length]
  split
  · exact gP0_vals a b _
  · exact .nil
abbrev PDK (X : Cx) (Wx : XK) (kws : List Keyword) (f : En → M (List D)) : Prop := PK X kws (rd X.K X.mg (RL X.K X.mg) Wx f)
theorem pk_mono {X : Cx} {e : List Keyword} {t t' : TA} (h : PK X e t) (i : ∀ σ H Q, t' σ H Q → t σ H Q) : PK X e t' := ⟨fun pos pins s σ H Q I q => h.run pos pins s σ H Q I (i σ H Q q)⟩
section
variable {X : Cx} {Wx : XK} {k n : Nat} {f C : Addr} {fd : FuncData} {ps ks : List Str} {F : List D → M D} {dvs : List V} {dd : List D} {ds : List Value} {x m : Str} {p pos apos kpos : Pos} {e o : Expr} {es : List Expr} {kws : List Keyword} {g gk : En → M (List D)} {fo fe : En → M D} {nm : Option Str}
theorem pdk_nil : PDK X Wx [] dNil := pk_mono pk_nil fun σ H Q ⟨w, ρ, s, env, run⟩ => Run.here run .nil
theorem pdk_cons (ha : PD X Wx e fe) (hr : PDK X Wx kws g) : PDK X Wx (⟨nm, e, kpos⟩ :: kws) (dCons fe g) :=
  pk_mono (pk_cons ha hr) fun σ H Q ⟨w, ρ, s, env, run⟩ => ⟨w, ρ, s, env, run.bind fun w1 x v1 H1 s1 le1 r1 run1 => ⟨w1, ρ, s1, env.mono le1, run1.bind fun w2 y v2 H2 s2 le2 r2 run2 => Run.here run2 (.cons (r1.mono le2) r2)⟩⟩
/-- *e in a display -/
def dStar (f : En → M D) (g : En → M (List D)) : En → M (List D) := fun ρ => bnd (f ρ) fun x => bnd (oItems x) fun ys => bnd (g ρ) fun xs => ret (ys ++ xs)
theorem pda_star {p0 : Pos} (he : PD X Wx e fe) (hr : PDA X Wx es g) (hs : starEach (.Starred e p0 :: es) X.env = (true, eval e X.env) :: starEach es X.env := by rfl) : PDA X Wx (.Starred e p0 :: es) (dStar fe g) :=
  pa_mono (StX.pa_star he hr hs) fun σ H Q ⟨w, ρ, s, env, run⟩ => ⟨w, ρ, s, env, run.bind fun w1 x v1 H1 s1 le1 r1 run1 => by
    obtain ⟨a, ds, vs, rfl, hq, r2, run2⟩ := items_of r1 run1
    exact ⟨a, vs, rfl, hq.symm, w1, ρ, s1, env.mono le1, run2.bind fun w2 y v2 H2 s2 le2 r3 run3 => Run.here run3 ((r2.mono le2).append r3)⟩⟩
/-- a promise met -/
theorem sp_of {w : W} {s : S} {σ : L2.St} {H : Hp} {xs : List D} {vs : List V} {Q : VK} {E : XK} (r : RL X.K X.mg w xs vs) (run : Run X.K X.mg (RD X.K X.mg) WF (F xs) w s σ H Q) (hl : xs.length = n) : spD X.K X.mg n F vs H Q E :=
  ⟨by rw [← r.length]; exact hl, w, s, xs, σ, r, run⟩
def arity (n : Nat) (F : List D → M D) : Prop := ∀ ds s r, F ds s = some r → ds.length = n
theorem arity_F {n N : Nat} {b : En → M Fl} : arity n (frmF n N b) := fun ds s r e => by
  unfold frmF at e
  split at e
  · assumption
  · cases e
theorem arity_K {n N : Nat} {b : En → M Fl} : arity n (frmK n N b) := fun ds s r e => by
  unfold frmK at e
  split at e
  · assumption
  · cases e
theorem Run.arity {α : Type} {R : W → D → α → Prop} {w : W} {s : S} {σ : L2.St} {H : Hp} {xs : List D} {Q : α → Hp → Prop} (ha : DS.arity n F) (run : Run K mg R Wx (F xs) w s σ H Q) : xs.length = n := by
  obtain ⟨_, r, s', e, _⟩ := run
  exact ha xs s _ e
theorem pd_call (G : FnG X.prog X.w X.K X.mg X.base L2.CX0 k f fd ps (spD X.K X.mg n F)) (ar : arity n F) (hr : RoomG k X.A) (hm : X.mg x = some (.ref f)) (hk : PySem.W.keepIn X.K (.ref f) = true) (hb : Binds X.K fd ps ds) (hd : Vals dvs ds) (hdd : ∀ w, RL X.K X.mg w dd dvs)
    (ha : PDA X WF (e :: es) g) (hg : Gl X x := by rfl) (hdb : (x == ("__debug__" : Str)) = false := by decide) (he : starEach (e :: es) X.env = (false, eval e X.env) :: starEach es X.env := by rfl) (hpl : (backTo pos (starEach es X.env)).any (·.1) = false := by rfl) :
    PD X WF (.Call (.Name x p) (e :: es) [] pos) (dCall F dd g) :=
  pe_mono (pe_callG (E := L2.E0) G hr hg hm hk hb hd L2.pass0 ha hdb he hpl) fun σ H Q ⟨w, ρ, s, env, run⟩ => ⟨w, ρ, s, env, run.bind fun w1 xs vs H1 s1 le1 r1 run1 => sp_of (r1.append (hdd w1)) run1 (Run.arity ar run1)⟩
theorem pd_call0 (G : FnG X.prog X.w X.K X.mg X.base L2.CX0 k f fd ps (spD X.K X.mg n F)) (ar : arity n F) (hr : RoomG k X.A) (hm : X.mg x = some (.ref f)) (hk : PySem.W.keepIn X.K (.ref f) = true) (hb : Binds X.K fd ps ds) (hd : Vals dvs ds) (hdd : ∀ w, RL X.K X.mg w dd dvs)
    (hg : Gl X x := by rfl) (hdb : (x == ("__debug__" : Str)) = false := by decide) : PD X WF (.Call (.Name x p) [] [] pos) (dCall F dd dNil) :=
  pe_mono (pe_callG0 G hr hg hm hk hb hd L2.pass0 hdb) fun σ H Q ⟨w, ρ, s, env, run⟩ => by
    have run1 : Run X.K X.mg (RD X.K X.mg) WF (F ([] ++ dd)) w s σ H Q := run
    exact sp_of (E := L2.E0) (hdd w) run1 (Run.arity ar run1)
def dMeth (cs : List Str) (m : Str) (F : List D → M D) (dd : List D) (fo : En → M D) (g : En → M (List D)) : En → M D := fun ρ => bnd (fo ρ) fun x => bnd (chkI cs m x) fun _ => bnd (g ρ) fun xs => F (x :: (xs ++ dd))
theorem lookup_none {m : Str} : ∀ {fs : List (Str × V)}, m ∉ fs.map (·.1) → fs.lookup m = none
  | [], _ => rfl
  | (n, v) :: fs, h => by
    rw [List.map_cons, List.mem_cons, not_or] at h
    have hb : (m == n) = false := by simpa using h.1
    simp only [List.lookup, hb]
    exact lookup_none h.2
theorem chkI_of {w : W} {s : S} {σ : L2.St} {H : Hp} {α β : Type} {R : W → α → β → Prop} {Q : β → Hp → Prop} {c : Str} {d : D} {v : V} {m0 : M α} (r : RD K mg w d v) (run : Run K mg R Wx (bnd (chkI [c] m d) fun _ => m0) w s σ H Q) :
    ∃ a C dx fs, v = .ref a ∧ H a = some (.ins C dx fs) ∧ mg c = some (.ref C) ∧ fs.lookup m = none ∧ Run K mg R Wx m0 w s σ H Q := by
  have gd : ∀ {Cc : Prop} [Decidable Cc], Run K mg R Wx (bnd (if Cc then ret () else stuck) fun _ => m0) w s σ H Q → Cc ∧ Run K mg R Wx m0 w s σ H Q := fun {Cc} _ h => by
    by_cases c : Cc
    · rw [if_pos c] at h
      exact ⟨c, h⟩
    · rw [if_neg c] at h
      exact h.no
  cases r <;> first
    | exact run.no
    | skip
  · next a C dx c' ns ds fs q hc en r =>
    obtain ⟨h, run2⟩ := gd (Cc := c' ∈ [c] ∧ m ∉ ns) run
    rw [List.mem_singleton] at h
    obtain ⟨rfl, hm⟩ := h
    exact ⟨a, C, dx, fs, rfl, run2.1.ex _ _ q, hc, lookup_none (by rw [en]; exact hm), run2⟩
  · next a p q =>
    have run : Run K mg R Wx (bnd (bnd (look a) fun d => match d with | .ins c' ns _ => if c' ∈ [c] ∧ m ∉ ns then ret () else stuck | _ => stuck) fun _ => m0) w s σ H Q := run
    rw [bnd_bnd] at run
    obtain ⟨d, o, e1, e2, r, run⟩ := Run.look q run
    cases d <;> first
      | exact run.no
      | skip
    next c' ns ds =>
      obtain ⟨C, dx, fs, rfl, hc, en, r⟩ := r.ins_of
      obtain ⟨h, run2⟩ := gd (Cc := c' ∈ [c] ∧ m ∉ ns) run
      rw [List.mem_singleton] at h
      obtain ⟨rfl, hm⟩ := h
      exact ⟨_, C, dx, fs, rfl, e2, hc, lookup_none (by rw [en]; exact hm), run2⟩
theorem pd_meth {pl : Sem Bool} {c : Str} (hc : X.mg c = some (.ref C)) (cl : Cls X.K C) (hm : Meth X.K C m f) (G : FnG X.prog X.w X.K X.mg X.base L2.CX0 k f fd ps (spD X.K X.mg n F)) (ar : arity n F) (hr : RoomG k X.A) (hb : Binds X.K fd ps ds) (hd : Vals dvs ds) (hdd : ∀ w, RL X.K X.mg w dd dvs)
    (ho : PD X WF o fo) (ha : PDA X WF (e :: es) g) (hst : starEach (e :: es) X.env = (false, eval e X.env) :: starEach es X.env := by rfl) (hpl : (backTo pos (starEach es X.env)).any (·.1) = false := by rfl)
    (ht : eval (.Call (.Attribute o m apos) (e :: es) [] pos) X.env = (do
      let ov ← eval o X.env
      standAt apos.atName
      let (f, first) ← holding [ov] (getMethod ov m pl)
      callWith pos f first (backTo pos (starEach (e :: es) X.env)) (backToKw pos (keywordEach [] X.env))) := by rfl) : PD X WF (.Call (.Attribute o m apos) (e :: es) [] pos) (dMeth [c] m F dd fo g) :=
  pe_mono (pe_methG (pl := pl) (E := L2.E0) ho cl hm G hr hb hd L2.pass0 ha hst hpl ht) fun σ H Q ⟨w, ρ, s, env, run⟩ => ⟨w, ρ, s, env, run.bind fun w1 x v1 H1 s1 le1 r1 run1 => by
    obtain ⟨a, C', dx, fs, rfl, h1, h2, h3, run2⟩ := chkI_of r1 run1
    rw [hc] at h2
    cases h2
    exact ⟨a, dx, fs, rfl, h1, h3, w1, ρ, s1, env.mono le1, run2.bind fun w2 xs vs H2 s2 le2 r2 run3 => sp_of (.cons (r1.mono le2) (r2.append (hdd w2))) run3 (Run.arity ar run3)⟩⟩
theorem pd_meth0 {pl : Sem Bool} {c : Str} (hc : X.mg c = some (.ref C)) (cl : Cls X.K C) (hm : Meth X.K C m f) (G : FnG X.prog X.w X.K X.mg X.base L2.CX0 k f fd ps (spD X.K X.mg n F)) (ar : arity n F) (hr : RoomG k X.A) (hb : Binds X.K fd ps ds) (hd : Vals dvs ds) (hdd : ∀ w, RL X.K X.mg w dd dvs)
    (ho : PD X WF o fo)
    (ht : eval (.Call (.Attribute o m apos) [] [] pos) X.env = (do
      let ov ← eval o X.env
      standAt apos.atName
      let (f, first) ← holding [ov] (getMethod ov m pl)
      callWith pos f first (backTo pos (starEach [] X.env)) (backToKw pos (keywordEach [] X.env))) := by rfl) : PD X WF (.Call (.Attribute o m apos) [] [] pos) (dMeth [c] m F dd fo dNil) :=
  pe_mono (pe_methG0 (pl := pl) (E := L2.E0) ho cl hm G hr hb hd L2.pass0 ht) fun σ H Q ⟨w, ρ, s, env, run⟩ => ⟨w, ρ, s, env, run.bind fun w1 x v1 H1 s1 le1 r1 run1 => by
    obtain ⟨a, C', dx, fs, rfl, h1, h2, h3, run2⟩ := chkI_of r1 run1
    rw [hc] at h2
    cases h2
    have run3 : Run X.K X.mg (RD X.K X.mg) WF (F (x :: ([] ++ dd))) w1 s1 σ H1 Q := run2
    exact ⟨a, dx, fs, rfl, h1, h3, sp_of (E := L2.E0) (.cons r1 (hdd w1)) run3 (Run.arity ar run3)⟩⟩
/-- a new instance, frozen when its __init__ has ended -/
def makeF (c : Str) (F : List D → M D) (ds : List D) : M D := fun s => match F (.ref s.objs.length :: ds) ⟨s.objs.length :: s.bases, s.objs ++ [.ins c [] []]⟩ with
  | some (.ok .non, s') => if s'.bases = s.objs.length :: s.bases then (match fz s.objs.length s'.objs (.ref s.objs.length) with
    | some d' => some (.ok d', ⟨s.bases, s'.objs.take s.objs.length⟩)
    | none => none) else none
  | _ => none
/-- .. that stays an object -/
def makeK (c : Str) (F : List D → M D) (ds : List D) : M D := fun s => match F (.ref s.objs.length :: ds) ⟨s.bases, s.objs ++ [.ins c [] []]⟩ with
  | some (.ok .non, s') => some (.ok (.ref s.objs.length), s')
  | _ => none
def dMake (mkr : (List D → M D) → List D → M D) (F : List D → M D) (dd : List D) (g : En → M (List D)) : En → M D := fun ρ => bnd (g ρ) fun xs => mkr F (xs ++ dd)
theorem made_in {w : W} {s : S} {H : Hp} {x dx : Addr} {c : Str} (st : Sto K mg w s H) (hx : H x = none) (hdx : H dx = none) (hne : dx ≠ x) (hc : mg c = some (.ref C)) :
    Sto K mg ⟨w.F, w.α ++ [x], w.hold⟩ ⟨s.bases, s.objs ++ [.ins c [] []]⟩ (upd (upd H dx (.own x)) x (.ins C dx [])) ∧ w.le ⟨w.F, w.α ++ [x], w.hold⟩ := by
  have st1 := st.other (o := .own x) hdx
  exact st1.made (d := .ins c [] []) (by rw [upd_ne hne.symm]; exact hx) ⟨hc, rfl, .nil⟩ rfl
theorem push_in {w : W} {s : S} {H : Hp} {o : D} (x : Sto K mg w ⟨s.bases, s.objs ++ [o]⟩ H) (h0 : ∀ b ∈ s.bases, b ≤ s.objs.length) (h1 : ∀ (i : Nat) d p, i < s.objs.length → (s.objs ++ [o])[i]? = some d → w.α[i]? = some p → ∃ u, H p = some u ∧ RO K mg (w.cut s.objs.length) d u) : Sto K mg w ⟨s.objs.length :: s.bases, s.objs ++ [o]⟩ H := by
  refine ⟨x.len, x.nd, x.ex, x.off, x.obj, List.pairwise_cons.mpr ⟨h0, x.dec⟩, x.hld, x.hnd, fun b hb => ?_⟩
  rcases List.mem_cons.mp hb with hb | hb
  · subst hb
    exact ⟨by simp, fun i d p hi e1 e2 => h1 i d p hi e1 e2⟩
  · exact x.low b hb
theorem pd_makeF {c : Str} (M0 : Mk X.K C f) (G : FnG X.prog X.w X.K X.mg X.base L2.CX0 k f fd ps (spD X.K X.mg n F)) (ar : arity n F) (hr : RoomG (k + 1) X.A) (hm : X.mg c = some (.ref C)) (hb : Binds X.K fd ps ds) (hd : Vals dvs ds) (hdd : ∀ w, RL X.K X.mg w dd dvs)
    (ha : PDA X WF (e :: es) g) (hg : Gl X c := by rfl) (hdb : (c == ("__debug__" : Str)) = false := by decide) (he : starEach (e :: es) X.env = (false, eval e X.env) :: starEach es X.env := by rfl) (hpl : (backTo pos (starEach es X.env)).any (·.1) = false := by rfl) :
    PD X WF (.Call (.Name c p) (e :: es) [] pos) (dMake (makeF c) F dd g) :=
  pe_mono (pe_makeG (E := L2.E0) M0 G hr hg hm hb hd L2.pass0 ha hdb he hpl) fun σ H Q ⟨w, ρ, s, env, run⟩ => ⟨w, ρ, s, env, run.bind fun w1 xs vs H1 s1 le1 r1 run1 x dx hx hdx hne => by
    obtain ⟨st, rr, s', ee, pp⟩ := run1
    obtain ⟨st2, le2⟩ := made_in st hx hdx hne hm
    have st3 : Sto X.K X.mg ⟨w1.F, w1.α ++ [x], w1.hold⟩ ⟨s1.objs.length :: s1.bases, s1.objs ++ [.ins c [] []]⟩ (upd (upd H1 dx (.own x)) x (.ins C dx [])) := by
      refine push_in st2 (fun b hb => (st.low b hb).1) fun i d p hi e1 e2 => ?_
      have hi2 : i < w1.α.length := by rw [← st.len]; exact hi
      have e2 : (w1.α ++ [x])[i]? = some p := e2
      rw [List.getElem?_append_left hi] at e1
      rw [List.getElem?_append_left hi2] at e2
      obtain ⟨u, h1, h2⟩ := st.obj i d p e1 e2
      refine ⟨u, ?_, ?_⟩
      · rw [upd_ne (ne_of_none h1 hx), upd_ne (ne_of_none h1 hdx)]
        exact h1
      · have e : (⟨w1.F, w1.α ++ [x], w1.hold⟩ : W).cut s1.objs.length = w1 := by
          unfold W.cut
          rw [st.len, List.take_left]
        rw [e]
        exact h2
    have rx : RD X.K X.mg ⟨w1.F, w1.α ++ [x], w1.hold⟩ (.ref s1.objs.length) (.ref x) := .ref (by show (w1.α ++ [x])[s1.objs.length]? = some x; rw [st.len]; simp)
    unfold makeF at ee
    split at ee
    · next s2 ef =>
      split at ee
      · next hbs =>
        split at ee
        · next d' ez =>
          cases ee
          have hlen := ar _ _ _ ef
          refine ⟨by rw [List.length_cons, List.length_append, ← r1.length, ← (hdd w1).length, ← List.length_append, ← List.length_cons (a := D.ref s1.objs.length)]; exact hlen, _, _, _, σ, .cons rx ((r1.append (hdd w1)).mono le2), st3, _, _, ef, fun w3 b H3 le3 r3 st4 => ?_⟩
          have r3 : RD X.K X.mg w3 .non b := r3
          cases r3
          refine ⟨rfl, ?_⟩
          obtain ⟨bs2, os2⟩ := s2
          cases hbs
          obtain ⟨w4, st5, le5, r5⟩ := st4.fin (rx.mono le3) ez
          exact pp w4 _ H3 ((by rw [st.len]; exact prefix_cut (le2.trans le3) : w1.le (w3.cut s1.objs.length)).trans le5) r5 st5
        · cases ee
      · cases ee
    · cases ee⟩
theorem pd_callK (G : FnG X.prog X.w X.K X.mg X.base L2.CX0 k f fd ps (spD X.K X.mg n F)) (ar : arity n F) (hr : RoomG k X.A) (hm : X.mg x = some (.ref f)) (hk : PySem.W.keepIn X.K (.ref f) = true) {perm : Pm} (hb : KBinds X.K fd ps ks (gP perm) (gP perm))
    (ha : PDA X WF (e :: es) g) (hkw : PDK X WF kws gk) (hall : (backToKw pos (keywordEach kws X.env)).all (·.1.isSome) = true := by rfl) (hks : (backToKw pos (keywordEach kws X.env)).filterMap (·.1) = ks := by rfl) (hg : Gl X x := by rfl)
    (hdb : (x == ("__debug__" : Str)) = false := by decide) (he : starEach (e :: es) X.env = (false, eval e X.env) :: starEach es X.env := by rfl)
    (hpl : ((backTo pos (starEach (e :: es) X.env)).any (·.1) || (backToKw pos (keywordEach kws X.env)).any (·.1.isNone)) = false := by rfl) : PD X WF (.Call (.Name x p) (e :: es) kws pos) (dCallK F perm g gk) :=
  pe_mono (pe_callGK (E := L2.E0) G hr hg hm hk hb L2.pass0 ha hkw hall hks hdb he hpl) fun σ H Q ⟨w, ρ, s, env, run⟩ => ⟨w, ρ, s, env, run.bind fun w1 xs vs H1 s1 le1 r1 run1 => ⟨w1, ρ, s1, env.mono le1, run1.bind fun w2 zs us H2 s2 le2 r2 run2 =>
    sp_of (RL.gP (r1.mono le2) r2 perm) run2 (Run.arity ar run2)⟩⟩
theorem pd_callK0 (G : FnG X.prog X.w X.K X.mg X.base L2.CX0 k f fd ps (spD X.K X.mg n F)) (ar : arity n F) (hr : RoomG k X.A) (hm : X.mg x = some (.ref f)) (hk : PySem.W.keepIn X.K (.ref f) = true) {perm : Pm} (hb : KBinds X.K fd ps ks (gP perm) (gP perm))
    (hkw : PDK X WF kws gk) (hall : (backToKw pos (keywordEach kws X.env)).all (·.1.isSome) = true := by rfl) (hks : (backToKw pos (keywordEach kws X.env)).filterMap (·.1) = ks := by rfl) (hg : Gl X x := by rfl)
    (hdb : (x == ("__debug__" : Str)) = false := by decide)
    (hpl : ((backTo pos (starEach [] X.env)).any (·.1) || (backToKw pos (keywordEach kws X.env)).any (·.1.isNone)) = false := by rfl) : PD X WF (.Call (.Name x p) [] kws pos) (dCallK F perm dNil gk) := by
  refine ⟨fun pins s σ H Q I ⟨w, ρ, s0, env, run⟩ => ?_⟩
  refine wpAny_Call_Name_kw (ld_glob I hg hm ?_ hdb)
  refine PySem.W.callWith_KW0 (h₀ := X.base) I.ok.mod.kin hk hall (thn (hkw.run pos pins s σ H (fun zs H2 => spD X.K X.mg n F (gP perm [] zs) H2 Q L2.E0) I ⟨w, ρ, s0, env, ?_⟩) fun ws s2 ⟨zs, H2, I2, rz, q2⟩ => ⟨I2.kIn, ?_⟩) hpl
  · have run1 : Run X.K X.mg (RD X.K X.mg) WF (bnd (gk ρ) fun zs => F (gP perm [] zs)) w s0 σ H Q := run
    exact run1.bind fun w2 zs us H2 s2 le2 r2 run2 => sp_of (E := L2.E0) (RL.gP .nil r2 perm) run2 (Run.arity ar run2)
  · rw [hks]
    exact runG_fnk G hr hb L2.pass0 I2 (us := []) .nil rz q2
end
end DS
/-! DSA: the law's call, sorted, repr -/
namespace DS
open PySem L2 PySem.Spec PyProof.Rows

theorem law_callG {P : Program} {w : World} {K : PySem.W.Frag} {mg mb : Str → Option Value} {CX : CXT} {k : Nat} {fa a : Addr} {fd : FuncData} {x : Str} {sp : Sp} {s₁ : Shared} {vs : List Value} {ns : List Int}
    (KX : K.In s₁.heap) (hns : s₁.heap.Ns mainGlobals mg) (hb : s₁.heap.Ns builtinsNs mb) (hbb : ∀ x : Str, x ≠ "__name__" → mb x = bootBuiltins x) (hlim : s₁.heap.NoLimit) (hg : s₁.gens = #[])
    (ha : s₁.heap.get? a = some { cls := .type "list", data := .seq vs.toArray }) (hi : IntsAre vs ns) (hl : ns.length ≤ sizeLine) (hr : RoomG k callerA)
    (F : ∀ base : Heap, K.In base → base.Ns mainGlobals mg → FnG P w K mg base CX k fa fd [x] sp) (hbind : ∀ (s : Shared) (u : Value), BindsTo s fd ⟨[u], []⟩ [(x, u)])
    (hsp : ∀ H : Hp, Only H → SqL K H a (ns.map V.int) → sp [.ref a] H (fun v _ => v = .bl true) fun _ _ _ => False)
    (hCX : ∀ H e s', CX [] H s₁ (fun _ _ _ => False) e s' → False) :
    codeAny (model P w) callerA (.call (.ref fa) ⟨[.ref a], []⟩) (fun r s' => r = .ok (.ret (.bool true)) ∧ OldK s₁.heap s'.heap ∧ s'.os = s₁.os ∧ AllBare s'.gens) s₁ := by
  have rv := vals_ints hi
  have lenV := hi.length
  -- from an abstract heap in which nothing but the script may be tracked
  have core : ∀ H : Hp, Only H → SqL K H a (ns.map V.int) → HOk P w H s₁.heap → (∀ b, H b ≠ none → b = a) → (H a ≠ none → K.lookup a = none) →
      codeAny (model P w) callerA (.call (.ref fa) ⟨[.ref a], []⟩) (fun r s' => r = .ok (.ret (.bool true)) ∧ OldK s₁.heap s'.heap ∧ s'.os = s₁.os ∧ AllBare s'.gens) s₁ := by
    intro H hO hS hok hA hK
    have base_of : ∀ {b : Addr} {o : Obj}, s₁.heap.get? b = some o → H b = none → (hidT s₁.heap H).get? b = some o := fun e n => hidT_get e n
    have noA : ∀ {b : Addr} {o : Obj} {es : Array DictEntry} {ep : Nat}, s₁.heap.get? b = some o → o.data = .dict es ep → H b = none := fun {b o es ep} e d => by
      cases q : H b with
      | none => rfl
      | some u =>
        have e' : b = a := hA b (by rw [q]; simp)
        subst e'
        rw [ha] at e; cases e
        have d' : Data.seq vs.toArray _ = Data.dict es ep := d
        cases d'
    have nsK : ∀ {b : Addr} {m : Str → Option Value}, s₁.heap.Ns b m → (hidT s₁.heap H).Ns b m := fun {b m} ⟨o, es, ep, e, d, r⟩ => ⟨o, es, ep, base_of e (noA e d), d, r⟩
    have hKb : K.In (hidT s₁.heap H) := fun b o e => base_of (KX b o e) (by
      cases q : H b with
      | none => rfl
      | some u =>
        have e' : b = a := hA b (by rw [q]; simp)
        subst e'
        rw [hK (by rw [q]; simp)] at e; cases e)
    have hM : Mod K mg (hidT s₁.heap H) := ⟨hKb, nsK hns, ⟨mb, nsK hb, hbb⟩, let ⟨mc, h1, h2⟩ := hlim; ⟨mc, nsK h1, h2⟩⟩
    have e0 : Env0 P w K mg (hidT s₁.heap H) callerA [] s₁ H := ⟨rfl, hM, fun b o e => of_hidT e, Nat.le_of_eq (hidT_size _ _), trivial, fun b hb => absurd (show b ∈ ([] : List Addr) from hb) (by simp), hok, .of_eq hg⟩
    refine codeAny_mono ((F _ hKb (nsK hns)).run callerA [] s₁ H ⟨[.ref a], []⟩ [.ref a] [.ref a] _ _ hr e0 (hbind s₁ (.ref a)) (.cons rfl .nil) (hsp H hO hS)) fun r s' h => ?_
    cases r with
    | error e => exact (hCX H e s' h).elim
    | ok fl =>
      cases fl with
      | next => exact False.elim h
      | brk => exact False.elim h
      | cont => exact False.elim h
      | ret u =>
        obtain ⟨v, H', os, bare, un, hok', r', q⟩ := h
        have q' : v = .bl true := q
        subst q'
        obtain rfl : u = Value.bool true := r'
        refine ⟨rfl, OldK.of_keep fun b o e => ?_, os, bare⟩
        cases q : H b with
        | none => exact un.keep b o e q (by intro z; exact absurd (show b ∈ ([] : List Addr) from z) (by simp)) (by simp)
        | some u =>
          rcases hO b with z | ⟨ob, xs, z⟩
          · rw [q] at z; cases z
          · have z2 := un.frzs b ob _ z
            obtain ⟨e1, _⟩ := hok b _ z
            obtain ⟨e2, _⟩ := hok' b _ z2
            rw [e] at e1; cases e1
            exact e2
  cases hk : K.lookup a with
  | some o =>
    -- the script is one of the module's own objects
    have e := KX a o hk
    rw [ha] at e
    cases e
    refine core (fun _ => none) (fun _ => .inl rfl) (.inr ⟨_, vs.toArray, _, hk, rfl, rfl, rfl, by rw [List.size_toArray, lenV]; exact hl, by simpa using rv⟩) (fun b u z => by have z' : (none : Option HO) = some u := z; cases z') (fun b z => absurd rfl z) fun z => absurd rfl z
  | none =>
    refine core (fun b => if b = a then some (.frz { cls := .type "list", data := .seq vs.toArray } (.lst (ns.map V.int))) else none) (fun b => ?_) (.inl (.inr ⟨{ cls := .type "list", data := .seq vs.toArray }, if_pos rfl⟩)) (fun b u z => ?_) (fun b z => ?_) fun _ => hk
    · by_cases hb : b = a
      · exact .inr ⟨_, _, if_pos hb⟩
      · exact .inl (if_neg hb)
    · by_cases hb : b = a
      · have z' := (if_pos hb).symm.trans z
        cases z'
        subst hb
        exact ⟨ha, by rw [List.length_map]; exact hl, vs, _, rv, ha⟩
      · have z' := (if_neg hb).symm.trans z
        cases z'
    · by_cases hb : b = a
      · exact hb
      · exact absurd (if_neg hb) z

/-- the goal that k_head leaves, from the law's promise -/
theorem walk_ofG {l : PySem.W.OpenLaw} {n k : Nat} {q : Program} {loose : List Str} {XP : (Str → Option Value) → Heap → Prop} {YP : World → Heap → Prop} {d : DefRec} {K : Params → PySem.W.Frag} {x : Str}
    (hn : l.most = some n) (hn2 : n ≤ sizeLine) (hdf : d.params.defaults = []) (hr : RoomG k callerA)
    (hY : ∀ (w : World) (h : Heap), YP w h → (K w.params).In h)
    (F : ∀ (w : World) (mg : Str → Option Value) (fa : Addr) (h : Heap), (K w.params).In h → h.Ns mainGlobals mg → mg d.name = some (.ref fa) →
      ∃ (fd : FuncData) (sp : Sp), (∀ (s : Shared) (u : Value), BindsTo s fd ⟨[u], []⟩ [(x, u)]) ∧
        (∀ base : Heap, (K w.params).In base → base.Ns mainGlobals mg → FnG l.prog w (K w.params) mg base L2.CX0 k fa fd [x] sp) ∧
          ∀ (H : Hp) (a : Addr) (ns : List Int), ns.length ≤ n → Only H → SqL (K w.params) H a (ns.map V.int) → sp [.ref a] H (fun v _ => v = .bl true) fun _ _ _ => False) :
    PySem.W.WalkO q loose XP YP l.row.toRowW d [] (fun f vs => PySem.call f vs) := by
  refine Att.attach_call hn hdf fun w s₀ s₁ mg mb fa o pm cd doc a vs ns G Y ho hd hcd hmg hobj hints hlen hg => ?_
  have KX := hY w _ Y
  obtain ⟨fd, sp, hb, hF, hsp⟩ := F w mg fa _ KX G.T.g hmg
  exact law_callG KX G.T.g G.T.b G.T.builtins G.T.nolimit hg hobj hints (Nat.le_trans hlen hn2) hr hF hb (fun H hO hS => hsp H a ns hlen hO hS) fun H e s' z => z
/-- what the law starts with: the script alone -/
theorem start_law {K : PySem.W.Frag} {mg : Str → Option Value} {n : Nat} {F : List D → M D} {H : Hp} {a : Addr} {ns : List Int} (hO : Only H) (hS : SqL K H a (ns.map V.int)) (hn : n = 1)
    (hF : ∃ s', F [.scr (ns.map .int)] ⟨[], []⟩ = some (.ok (.bl true), s')) : spD K mg n F [.ref a] H (fun v _ => v = .bl true) fun _ _ _ => False := by
  subst hn
  obtain ⟨s', e⟩ := hF
  have rl : ∀ ns : List Int, ∀ w : W, RL K mg w (ns.map .int) (ns.map V.int) := fun ns w => by
    induction ns with
    | nil => exact .nil
    | cons i ns ih => exact .cons (.int i) ih
  have st : Sto K mg ⟨H, [], []⟩ ⟨[], []⟩ H := ⟨rfl, List.nodup_nil, Same.refl _, fun i d p h => (by simp at h), fun i d p h => (by simp at h), List.Pairwise.nil, fun q hq => (by cases hq), List.nodup_nil, fun b hb => (by cases hb)⟩
  refine ⟨rfl, ⟨H, [], []⟩, ⟨[], []⟩, [.scr (ns.map .int)], [], .cons (.scr hS (rl ns _)) .nil, st, _, _, e, fun w' v H' le r _ => ?_⟩
  have r : RD K mg w' (.bl true) v := r
  cases r
  rfl

/-! ### sorted -/
def toPys : List D → Option (List (D × PyData))
  | [] => some []
  | x :: xs => match toPy x, toPys xs with
    | some p, some ps => some ((x, p) :: ps)
    | _, _ => none
open Classical in
noncomputable def oSorted : List D → M D
  | [.lst ds] => match toPys ds with
    | some ps => if PySem.W.AllAlike (ps.map (·.2)) ∧ PySem.W.Sortable (ps.map (·.2)) ∧ ps.length ≤ CAP ∧ ∀ p ∈ ps, p.2.depth ≤ 40 then ret (.lst ((ps.mergeSort (PySem.W.dataLe false (·.2))).map (·.1))) else stuck
    | none => stuck
  | _ => stuck
def rSortD (K : PySem.W.Frag) (mg : Str → Option Value) : List V → Hp → VK → Prop := fun xs H Q => ∃ (a : Addr) (vs : List V) (w : W) (ps : List (D × PyData)), xs = [.ref a] ∧ SqL K H a vs ∧ Same w.F H ∧ RL K mg w (ps.map (·.1)) vs ∧ (∀ p ∈ ps, toPy p.1 = some p.2) ∧ PySem.W.AllAlike (ps.map (·.2)) ∧ PySem.W.Sortable (ps.map (·.2)) ∧ ps.length ≤ CAP ∧ (∀ p ∈ ps, p.2.depth ≤ 40) ∧
  ∀ us p, RL K mg w ((ps.mergeSort (PySem.W.dataLe false (·.2))).map (·.1)) us → H p = none → Q (.ref p) (upd H p (.lst us))
theorem toPys_of : ∀ {ds : List D} {ps : List (D × PyData)}, toPys ds = some ps → ps.map (·.1) = ds ∧ ∀ p ∈ ps, toPy p.1 = some p.2
  | [], _, e => by cases e; exact ⟨rfl, fun p hp => by cases hp⟩
  | x :: xs, _, e => by
    unfold toPys at e
    cases h1 : toPy x with
    | none => rw [h1] at e; cases e
    | some p =>
      cases h2 : toPys xs with
      | none => rw [h1, h2] at e; cases e
      | some ps =>
        rw [h1, h2] at e
        cases e
        obtain ⟨e1, e2⟩ := toPys_of h2
        exact ⟨by rw [List.map_cons, e1], fun q hq => by
          rcases List.mem_cons.mp hq with hq | hq
          · subst hq; exact h1
          · exact e2 q hq⟩
open Classical in
theorem im_sorted {K : PySem.W.Frag} {mg : Str → Option Value} : ImL K mg oSorted (rSortD K mg) := fun {Wx w s σ H xs vs Q} r run => by
  cases r with
  | nil => exact run.no
  | cons r1 r2 =>
    cases r2 with
    | cons _ _ => cases r1 <;> exact run.no
    | nil =>
      cases r1 <;> first
        | exact run.no
        | skip
      next a ds vs q r =>
        cases h : toPys ds with
        | none =>
          have run : Run K mg (RD K mg) Wx (match toPys ds with | some ps => (if PySem.W.AllAlike (ps.map (·.2)) ∧ PySem.W.Sortable (ps.map (·.2)) ∧ ps.length ≤ CAP ∧ ∀ p ∈ ps, p.2.depth ≤ 40 then ret (.lst ((ps.mergeSort (PySem.W.dataLe false (·.2))).map (·.1))) else stuck) | none => stuck) w s σ H Q := run
          rw [h] at run
          exact run.no
        | some ps =>
          have run : Run K mg (RD K mg) Wx (match toPys ds with | some ps => (if PySem.W.AllAlike (ps.map (·.2)) ∧ PySem.W.Sortable (ps.map (·.2)) ∧ ps.length ≤ CAP ∧ ∀ p ∈ ps, p.2.depth ≤ 40 then ret (.lst ((ps.mergeSort (PySem.W.dataLe false (·.2))).map (·.1))) else stuck) | none => stuck) w s σ H Q := run
          rw [h] at run
          obtain ⟨e1, e2⟩ := toPys_of h
          dsimp only at run
          obtain ⟨⟨c1, c2, c3, c4⟩, run⟩ := Run.guard (C := PySem.W.AllAlike (ps.map (·.2)) ∧ PySem.W.Sortable (ps.map (·.2)) ∧ ps.length ≤ CAP ∧ ∀ p ∈ ps, p.2.depth ≤ 40) run
          exact ⟨a, vs, w, ps, rfl, SqL.of (run.1.ex _ _ q), run.1.ex, by rw [e1]; exact r, e2, c1, c2, c3, c4, fun us p hus hp => run.froz hp fun w' le hF => .lst hF (hus.mono le)⟩
theorem each_rl {K : PySem.W.Frag} {mg : Str → Option Value} {w : W} {β : Type} {f : β → D} : ∀ {bs : List β} {vs : List V} {us : List Value}, RL K mg w (bs.map f) vs → Vals vs us → PySem.W.EachIs (fun u b => ∃ v, RelV v u ∧ RD K mg w (f b) v) us bs
  | [], _, _, r, v => by
    cases r
    cases v
    exact .nil
  | b :: bs, _, _, r, v => by
    cases r with
    | cons r1 r2 =>
      cases v with
      | cons v1 v2 => exact .cons ⟨_, v1, r1⟩ (each_rl r2 v2)
theorem rl_each {K : PySem.W.Frag} {mg : Str → Option Value} {w : W} {β : Type} {f : β → D} : ∀ {bs : List β} {us : List Value}, PySem.W.EachIs (fun u b => ∃ v, RelV v u ∧ RD K mg w (f b) v) us bs → ∃ vs, Vals vs us ∧ RL K mg w (bs.map f) vs
  | _, _, .nil => ⟨[], .nil, .nil⟩
  | _, _, .cons ⟨v, h1, h2⟩ t => by
    obtain ⟨vs, k1, k2⟩ := rl_each t
    exact ⟨v :: vs, .cons h1 k1, .cons h2 k2⟩
theorem cr_sortD {X : Cx} (hu : X.A.units + 64 < cLine) : CallR X (.builtin "sorted") (rSortD X.K X.mg) := by
  intro pins s σ H vs us Q I r h
  obtain ⟨a, xs, w, ps, rfl, hs, ex, rl, hp, c1, c2, c3, c4, q⟩ := h
  obtain ⟨its, rv, hl, hz⟩ := I.list hs
  obtain ⟨u, rfl, ru⟩ := vals1 r
  obtain rfl : u = Value.ref a := ru
  have e1 := each_rl rl rv
  have er : PySem.W.EachIs (fun v (b : D × PyData) => ∃ as, Reads s.heap v b.2 as) its ps := by
    have : ∀ {ps : List (D × PyData)} {its : List Value}, (∀ p ∈ ps, toPy p.1 = some p.2) → PySem.W.EachIs (fun u b => ∃ v, RelV v u ∧ RD X.K X.mg w ((·.1) b) v) its ps → PySem.W.EachIs (fun v (b : D × PyData) => ∃ as, Reads s.heap v b.2 as) its ps := by
      intro ps its hp e
      induction e with
      | nil => exact .nil
      | cons h t ih =>
        obtain ⟨v, h1, h2⟩ := h
        refine .cons (Dp.reads I _ _ _ (RD.dp ex h2 (hp _ (List.mem_cons_self ..))) h1) (ih fun p hp' => hp p (List.mem_cons_of_mem _ hp'))
    exact this hp e1
  refine PySem.W.sorted_data (enc := (·.2)) hl.isList e1 er c1 c2 (cap_line c3) (fun b hb => by have := c4 b hb; omega) fun out hlen eo => ?_
  obtain ⟨vs', k1, k2⟩ := rl_each eo
  obtain ⟨c, hc⟩ := PyProof.Rows.sortedAll_at s.heap its out.toArray
  have hlo : vs'.length ≤ sizeLine := by rw [k1.length, hlen]; exact cap_line c3
  refine ⟨.ref (s.heap.objs.size + 1), upd H (s.heap.objs.size + 1) (.lst vs'), I.laid (t' := s.toks) (fun _ _ => PyProof.Rows.sortedAll_old) (Nat.le_succ _) ⟨hlo, out, c, k1, ?_⟩, rfl, q _ _ k2 (I.hok.fresh (Nat.le_succ _))⟩
  exact hc
/-! ### repr -/
def oRepr : List D → M D
  | [d] => match toPy d with
    | some p => if p.showable = true ∧ p.hasDict = false ∧ p.depth ≤ 40 ∧ p.shown.length ≤ CAP ∧ isSeqD d = true then ret (.str p.shown) else stuck
    | none => stuck
  | _ => stuck
def rReprD (K : PySem.W.Frag) : List V → Hp → VK → Prop := fun xs H Q => ∃ a d, xs = [.ref a] ∧ Dp K H (.ref a) d ∧ d.showable = true ∧ d.hasDict = false ∧ d.depth ≤ 40 ∧ d.shown.length ≤ CAP ∧ Q (.str d.shown) H
theorem im_repr {K : PySem.W.Frag} {mg : Str → Option Value} : ImL K mg oRepr (rReprD K) := fun {Wx w s σ H xs vs Q} r run => by
  cases r with
  | nil => exact run.no
  | cons r1 r2 =>
    cases r2 with
    | cons _ _ => exact run.no
    | nil =>
      rename_i d v
      cases h : toPy d with
      | none =>
        have run : Run K mg (RD K mg) Wx (match toPy d with | some p => if p.showable = true ∧ p.hasDict = false ∧ p.depth ≤ 40 ∧ p.shown.length ≤ CAP ∧ isSeqD d = true then ret (.str p.shown) else stuck | none => stuck) w s σ H Q := run
        rw [h] at run
        exact run.no
      | some p =>
        have run : Run K mg (RD K mg) Wx (match toPy d with | some p => if p.showable = true ∧ p.hasDict = false ∧ p.depth ≤ 40 ∧ p.shown.length ≤ CAP ∧ isSeqD d = true then ret (.str p.shown) else stuck | none => stuck) w s σ H Q := run
        rw [h] at run
        obtain ⟨⟨c1, c2, c3, c4, c5⟩, run⟩ := Run.guard (C := p.showable = true ∧ p.hasDict = false ∧ p.depth ≤ 40 ∧ p.shown.length ≤ CAP ∧ isSeqD d = true) run
        have dp := r1.dp run.1.ex h
        have hv : ∃ a, v = .ref a := by
          cases r1 <;> first
            | exact ⟨_, rfl⟩
            | cases c5
        obtain ⟨a, rfl⟩ := hv
        exact ⟨a, p, rfl, dp, c1, c2, c3, c4, run.here (.str _)⟩
theorem cr_repr {X : Cx} (hg : X.A.guards = some []) (hu : X.A.units + 64 < cLine) : CallR X (.builtin "repr") (rReprD X.K) := by
  intro pins s σ H vs us Q I r h
  obtain ⟨a, d, rfl, dp, c1, c2, c3, c4, q⟩ := h
  obtain ⟨u, rfl, ru⟩ := vals1 r
  obtain rfl : u = Value.ref a := ru
  obtain ⟨as, rr⟩ := Dp.reads I d _ _ dp rfl
  refine repr_of_reads' (hsz := cap_line c4) rr c1 (fun e => by rw [c2] at e; cases e) hg (by omega) (fun _ _ e => e) fun h' u tk hk => ⟨.str d.shown, H, I.kept (t' := tk) hk, ⟨u, rfl⟩, q⟩
end DS
/-! DSB: the rules in short, for printed terms -/
namespace DS
open PySem L2 PySem.Spec PyProof.Rows

theorem RoomG.u1 {k : Nat} {A : Around} (r : RoomG k A) : A.units + 1 < cLine := by have := r.r.un; omega
theorem RoomG.u64 {k : Nat} {A : Around} (r : RoomG k A) : A.units + 64 < cLine := by have := r.r.un; omega
section
variable {X : Cx} {Wx : XK} {j : Nat} {a b c e : Expr} {es : List Expr} {f g h : En → M D} {t u : En → M Bool} {fa : En → M (List D)} {p pos : Pos}
theorem pq_add (ha : PD X Wx a f) (hb : PD X Wx b g) : PD X Wx (.BinOp a .Add b pos) (dBin oAdd f g) := pd_op op_addD im_add ha hb
theorem pq_sub (ha : PD X Wx a f) (hb : PD X Wx b g) : PD X Wx (.BinOp a .Sub b pos) (dBin oSub f g) := pd_op op_sub im_sub ha hb
theorem pq_mul (ha : PD X Wx a f) (hb : PD X Wx b g) : PD X Wx (.BinOp a .Mult b pos) (dBin oMul f g) := pd_op op_mulD im_mul ha hb
theorem pq_fdv (ha : PD X Wx a f) (hb : PD X Wx b g) : PD X Wx (.BinOp a .FloorDiv b pos) (dBin oFdv f g) := pd_op op_fdiv im_fdv ha hb
theorem pq_mod (ha : PD X Wx a f) (hb : PD X Wx b g) : PD X Wx (.BinOp a .Mod b pos) (dBin oMod f g) := pd_op op_mod im_mod ha hb
theorem pq_pow (ha : PD X Wx a f) (hb : PD X Wx b g) : PD X Wx (.BinOp a .Pow b pos) (dBin oPow f g) := pd_op op_pow im_pow ha hb
theorem pq_neg (ha : PD X Wx a f) : PD X Wx (.UnaryOp .USub a pos) (dUn oNeg f) := pd_un un_neg im_neg ha
/-- a comparison's operator: what it does -/
structure CO (X : Cx) (op : CmpOp) (o : D → D → M D) : Prop where
  ex : ∃ r, OpR X (compareOp op) r ∧ Im2 X.K X.mg o r
theorem co_eq (hr : RoomG j X.A) : CO X .Eq oEq := ⟨_, op_eqD hr.u64, im_eq⟩
theorem co_ne (hr : RoomG j X.A) : CO X .NotEq oNe := ⟨_, op_neD hr.u64, im_ne⟩
theorem co_lt (hr : RoomG j X.A) : CO X .Lt oLt := ⟨_, op_lt, im_lt⟩
theorem co_le (hr : RoomG j X.A) : CO X .LtE oLe := ⟨_, op_le, im_le⟩
theorem co_gt (hr : RoomG j X.A) : CO X .Gt oGt := ⟨_, op_gt, im_gt⟩
theorem co_ge (hr : RoomG j X.A) : CO X .GtE oGe := ⟨_, op_ge, im_ge⟩
theorem co_is (hr : RoomG j X.A) : CO X .Is oIs := ⟨_, op_isN, im_is⟩
theorem co_isnt (hr : RoomG j X.A) : CO X .IsNot oIsNot := ⟨_, op_notN, im_isNot⟩
theorem co_in (hr : RoomG j X.A) : CO X .In (oInG false) := ⟨_, op_inG hr.u1 op_in_seq, im_inG false⟩
theorem co_nin (hr : RoomG j X.A) : CO X .NotIn (oInG true) := ⟨_, op_notInG hr.u1 op_notIn_seq, im_inG true⟩
theorem pq_cmp {op : CmpOp} {o : D → D → M D} (co : CO X op o) (ha : PD X Wx a f) (hb : PD X Wx b g) (hm : behindInMarks op b = false := by with_unfolding_all rfl) : PD X Wx (.Compare a [op] [b] pos) (dBin o f g) := let ⟨_, h1, h2⟩ := co.ex; pd_cmp h1 h2 ha hb hm
theorem pqt_cmp {op : CmpOp} {o : D → D → M D} (co : CO X op o) (ha : PD X Wx a f) (hb : PD X Wx b g) (hm : behindInMarks op b = false := by with_unfolding_all rfl) : PDT X Wx (.Compare a [op] [b] pos) (dTst (dBin o f g)) := let ⟨_, h1, h2⟩ := co.ex; pdt_cmp h1 h2 ha hb hm
theorem pq_chn {op op' : CmpOp} {o o' : D → D → M D} (co : CO X op o) (co' : CO X op' o') (ha : PD X Wx a f) (hb : PD X Wx b g) (hc : PD X Wx c h) (hm : lastMarks [op, op'] [b, c] = false := by with_unfolding_all rfl) : PD X Wx (.Compare a [op, op'] [b, c] pos) (dChn o o' f g h) :=
  let ⟨_, h1, h2⟩ := co.ex; let ⟨_, k1, k2⟩ := co'.ex; pd_chn h1 h2 k1 k2 ha hb hc hm
theorem pqt_chn {op op' : CmpOp} {o o' : D → D → M D} (co : CO X op o) (co' : CO X op' o') (ha : PD X Wx a f) (hb : PD X Wx b g) (hc : PD X Wx c h) (hm : lastMarks [op, op'] [b, c] = false := by with_unfolding_all rfl) : PDT X Wx (.Compare a [op, op'] [b, c] pos) (dTst (dChn o o' f g h)) :=
  let ⟨_, h1, h2⟩ := co.ex; let ⟨_, k1, k2⟩ := co'.ex; pdt_chn h1 h2 k1 k2 ha hb hc hm
/-- a built-in called by name -/
structure BO (X : Cx) (x : Str) (v : Value) (o : List D → M D) : Prop where
  ex : ∃ r, CallR X v r ∧ ImL X.K X.mg o r
  mg : X.mg x = none
  bt : bootBuiltins x = some v
theorem bo_len (h : X.mg "len" = none) : BO X "len" (.builtin "len") oLen := ⟨⟨_, call_len_seq, im_len⟩, h, boot_len⟩
theorem bo_abs (h : X.mg "abs" = none) : BO X "abs" (.builtin "abs") oAbs := ⟨⟨_, call_abs, im_abs⟩, h, boot_abs⟩
theorem bo_max (hc : X.calm = true) (h : X.mg "max" = none) : BO X "max" (.builtin "max") oMax2 := ⟨⟨_, call_max2 hc, im_max2⟩, h, boot_max⟩
theorem bo_min (hc : X.calm = true) (h : X.mg "min" = none) : BO X "min" (.builtin "min") oMin2 := ⟨⟨_, call_min2 hc, im_min2⟩, h, boot_min⟩
theorem bo_divmod (h : X.mg "divmod" = none) : BO X "divmod" (.builtin "divmod") oDivmod := ⟨⟨_, call_divmod, im_divmod⟩, h, boot_divmod⟩
theorem bo_all (hc : X.calm = true) (h : X.mg "all" = none) : BO X "all" (.builtin "all") oAll := ⟨⟨_, cr_all hc, im_all⟩, h, boot_all⟩
theorem bo_any (hc : X.calm = true) (h : X.mg "any" = none) : BO X "any" (.builtin "any") oAny := ⟨⟨_, cr_any hc, im_any⟩, h, boot_any⟩
theorem bo_sum (hc : X.calm = true) (h : X.mg "sum" = none) : BO X "sum" (.builtin "sum") oSum := ⟨⟨_, cr_sum hc, im_sum⟩, h, by decide +kernel⟩
theorem bo_sorted (hr : RoomG j X.A) (h : X.mg "sorted" = none) : BO X "sorted" (.builtin "sorted") oSorted := ⟨⟨_, cr_sortD hr.u64, im_sorted⟩, h, by decide +kernel⟩
theorem bo_repr (hr : RoomG j X.A) (h : X.mg "repr" = none) : BO X "repr" (.builtin "repr") oRepr := ⟨⟨_, cr_repr hr.g hr.u64, im_repr⟩, h, boot_repr⟩
theorem bo_int (h : X.mg "int" = none) : BO X "int" (.type "int") oInt := ⟨⟨_, call_int1, im_int⟩, h, boot_int⟩
theorem bo_tuple (h : X.mg "tuple" = none) : BO X "tuple" (.type "tuple") oTuple := ⟨⟨_, call_tuple_of, im_tuple⟩, h, by decide +kernel⟩
theorem bo_list (h : X.mg "list" = none) : BO X "list" (.type "list") oList := ⟨⟨_, call_list_of, im_list⟩, h, boot_list⟩
theorem pq_b {x : Str} {id : String} {o : List D → M D} (bo : BO X x (.builtin id) o) (ha : PDA X Wx (e :: es) fa) (hg : Gl X x := by rfl) (hn : x ≠ "__name__" := by decide) (hdb : (x == ("__debug__" : Str)) = false := by decide)
    (he : starEach (e :: es) X.env = (false, eval e X.env) :: starEach es X.env := by rfl) (hpl : (backTo pos (starEach es X.env)).any (·.1) = false := by rfl) : PD X Wx (.Call (.Name x p) (e :: es) [] pos) (dCB o fa) :=
  let ⟨_, h1, h2⟩ := bo.ex; pd_callB h1 h2 bo.mg bo.bt ha hg hn hdb he hpl
theorem pq_ty {x : Str} {T : String} {o : List D → M D} (bo : BO X x (.type T) o) (ha : PDA X Wx (e :: es) fa) (hg : Gl X x := by rfl) (hn : x ≠ "__name__" := by decide) (hdb : (x == ("__debug__" : Str)) = false := by decide)
    (he : starEach (e :: es) X.env = (false, eval e X.env) :: starEach es X.env := by rfl) (hpl : (backTo pos (starEach es X.env)).any (·.1) = false := by rfl) : PD X Wx (.Call (.Name x p) (e :: es) [] pos) (dCB o fa) :=
  let ⟨_, h1, h2⟩ := bo.ex; pd_callTy h1 h2 bo.mg bo.bt ha hg hn hdb he hpl
/-- a module's constants -/
theorem pq_gi {x : Str} {i : Int} (hm : ∃ t, X.mg x = some (.int i t)) (hg : Gl X x := by rfl) (hd : (x == ("__debug__" : Str)) = false := by decide) : PD X Wx (.Name x pos) (dC (.int i)) := let ⟨t, hm⟩ := hm; pd_glob (v := .int i) hm ⟨t, rfl⟩ (fun _ => .int i) hg hd
theorem pq_gs {x y : Str} (hm : ∃ t, X.mg x = some (.str y t)) (hg : Gl X x := by rfl) (hd : (x == ("__debug__" : Str)) = false := by decide) : PD X Wx (.Name x pos) (dC (.str y)) := let ⟨t, hm⟩ := hm; pd_glob (v := .str y) hm ⟨t, rfl⟩ (fun _ => .str y) hg hd
/-- a module's tuple of texts and numbers -/
def Flat (d : D) : Prop := (∃ i, d = .int i) ∨ ∃ x, d = .str x
structure GTup (K : PySem.W.Frag) (mg : Str → Option Value) (x : Str) (ds : List D) : Prop where
  ex : ∃ a vs, mg x = some (.ref a) ∧ (∀ H, SqT K H a vs) ∧ ∀ w, RL K mg w ds vs
theorem pq_gt {x : Str} {ds : List D} (hm : GTup X.K X.mg x ds) (hg : Gl X x := by rfl) (hd : (x == ("__debug__" : Str)) = false := by decide) : PD X Wx (.Name x pos) (dC (.gtp ds)) := let ⟨a, vs, h1, h2, h3⟩ := hm.ex; pd_glob (v := .ref a) h1 rfl (fun w => .gtp (h2 _) (h3 w)) hg hd
end

/-- a def that may be called by its name -/
structure Cd (P : Program) (w : World) (K : PySem.W.Frag) (mg : Str → Option Value) (base : Heap) (k : Nat) (x : Str) (n : Nat) (F : List D → M D) (dd : List D) : Prop where
  ex : ∃ (f : Addr) (fd : FuncData) (ps : List Str) (dvs : List V) (ds : List Value), FnG P w K mg base L2.CX0 k f fd ps (spD K mg n F) ∧ arity n F ∧ mg x = some (.ref f) ∧ PySem.W.keepIn K (.ref f) = true ∧ Binds K fd ps ds ∧ Vals dvs ds ∧ ∀ w, RL K mg w dd dvs
/-- .. with keywords -/
structure Ck (P : Program) (w : World) (K : PySem.W.Frag) (mg : Str → Option Value) (base : Heap) (k : Nat) (x : Str) (n : Nat) (F : List D → M D) (ks : List Str) (perm : Pm) : Prop where
  ex : ∃ (f : Addr) (fd : FuncData) (ps : List Str), FnG P w K mg base L2.CX0 k f fd ps (spD K mg n F) ∧ arity n F ∧ mg x = some (.ref f) ∧ PySem.W.keepIn K (.ref f) = true ∧ KBinds K fd ps ks (gP perm) (gP perm)
/-- a method -/
structure Cm (P : Program) (w : World) (K : PySem.W.Frag) (mg : Str → Option Value) (base : Heap) (k : Nat) (c m : Str) (n : Nat) (F : List D → M D) (dd : List D) : Prop where
  ex : ∃ (C f : Addr) (fd : FuncData) (ps : List Str) (dvs : List V) (ds : List Value), mg c = some (.ref C) ∧ Cls K C ∧ Meth K C m f ∧ FnG P w K mg base L2.CX0 k f fd ps (spD K mg n F) ∧ arity n F ∧ Binds K fd ps ds ∧ Vals dvs ds ∧ ∀ w, RL K mg w dd dvs
/-- a class to make -/
structure Cc (P : Program) (w : World) (K : PySem.W.Frag) (mg : Str → Option Value) (base : Heap) (k : Nat) (c : Str) (n : Nat) (F : List D → M D) (dd : List D) : Prop where
  ex : ∃ (C f : Addr) (fd : FuncData) (ps : List Str) (dvs : List V) (ds : List Value), mg c = some (.ref C) ∧ Mk K C f ∧ FnG P w K mg base L2.CX0 k f fd ps (spD K mg n F) ∧ arity n F ∧ Binds K fd ps ds ∧ Vals dvs ds ∧ ∀ w, RL K mg w dd dvs
section
variable {X : Cx} {k j n : Nat} {F : List D → M D} {dd : List D} {x m c : Str} {ks : List Str} {perm : Pm} {p pos apos : Pos} {e o : Expr} {es : List Expr} {kws : List Keyword} {g gk : En → M (List D)} {fo : En → M D}
theorem pq_c (cd : Cd X.prog X.w X.K X.mg X.base k x n F dd) (hr : RoomG j X.A) (hk : k ≤ j) (ha : PDA X WF (e :: es) g) (hg : Gl X x := by rfl) (hdb : (x == ("__debug__" : Str)) = false := by decide)
    (he : starEach (e :: es) X.env = (false, eval e X.env) :: starEach es X.env := by rfl) (hpl : (backTo pos (starEach es X.env)).any (·.1) = false := by rfl) : PD X WF (.Call (.Name x p) (e :: es) [] pos) (dCall F dd g) := by
  obtain ⟨f, fd, ps, dvs, ds, h1, h2, h3, h4, h5, h6, h7⟩ := cd.ex
  exact pd_call h1 h2 (hr.mono hk) h3 h4 h5 h6 h7 ha hg hdb he hpl
theorem pq_c0 (cd : Cd X.prog X.w X.K X.mg X.base k x n F dd) (hr : RoomG j X.A) (hk : k ≤ j) (hg : Gl X x := by rfl) (hdb : (x == ("__debug__" : Str)) = false := by decide) : PD X WF (.Call (.Name x p) [] [] pos) (dCall F dd dNil) := by
  obtain ⟨f, fd, ps, dvs, ds, h1, h2, h3, h4, h5, h6, h7⟩ := cd.ex
  exact pd_call0 h1 h2 (hr.mono hk) h3 h4 h5 h6 h7 hg hdb
theorem pq_k (cd : Ck X.prog X.w X.K X.mg X.base k x n F ks perm) (hr : RoomG j X.A) (hk : k ≤ j) (ha : PDA X WF (e :: es) g) (hkw : PDK X WF kws gk) (hall : (backToKw pos (keywordEach kws X.env)).all (·.1.isSome) = true := by rfl)
    (hks : (backToKw pos (keywordEach kws X.env)).filterMap (·.1) = ks := by rfl) (hg : Gl X x := by rfl) (hdb : (x == ("__debug__" : Str)) = false := by decide) (he : starEach (e :: es) X.env = (false, eval e X.env) :: starEach es X.env := by rfl)
    (hpl : ((backTo pos (starEach (e :: es) X.env)).any (·.1) || (backToKw pos (keywordEach kws X.env)).any (·.1.isNone)) = false := by rfl) : PD X WF (.Call (.Name x p) (e :: es) kws pos) (dCallK F perm g gk) := by
  obtain ⟨f, fd, ps, h1, h2, h3, h4, h5⟩ := cd.ex
  exact pd_callK h1 h2 (hr.mono hk) h3 h4 h5 ha hkw hall hks hg hdb he hpl
theorem pq_k0 (cd : Ck X.prog X.w X.K X.mg X.base k x n F ks perm) (hr : RoomG j X.A) (hk : k ≤ j) (hkw : PDK X WF kws gk) (hall : (backToKw pos (keywordEach kws X.env)).all (·.1.isSome) = true := by rfl)
    (hks : (backToKw pos (keywordEach kws X.env)).filterMap (·.1) = ks := by rfl) (hg : Gl X x := by rfl) (hdb : (x == ("__debug__" : Str)) = false := by decide)
    (hpl : ((backTo pos (starEach [] X.env)).any (·.1) || (backToKw pos (keywordEach kws X.env)).any (·.1.isNone)) = false := by rfl) : PD X WF (.Call (.Name x p) [] kws pos) (dCallK F perm dNil gk) := by
  obtain ⟨f, fd, ps, h1, h2, h3, h4, h5⟩ := cd.ex
  exact pd_callK0 h1 h2 (hr.mono hk) h3 h4 h5 hkw hall hks hg hdb hpl
theorem pq_m {pl : Sem Bool} (cd : Cm X.prog X.w X.K X.mg X.base k c m n F dd) (hr : RoomG j X.A) (hk : k ≤ j) (ho : PD X WF o fo) (ha : PDA X WF (e :: es) g) (hst : starEach (e :: es) X.env = (false, eval e X.env) :: starEach es X.env := by rfl)
    (hpl : (backTo pos (starEach es X.env)).any (·.1) = false := by rfl)
    (ht : eval (.Call (.Attribute o m apos) (e :: es) [] pos) X.env = (do
      let ov ← eval o X.env
      standAt apos.atName
      let (f, first) ← holding [ov] (getMethod ov m pl)
      callWith pos f first (backTo pos (starEach (e :: es) X.env)) (backToKw pos (keywordEach [] X.env))) := by rfl) : PD X WF (.Call (.Attribute o m apos) (e :: es) [] pos) (dMeth [c] m F dd fo g) := by
  obtain ⟨C, f, fd, ps, dvs, ds, h1, h2, h3, h4, h5, h6, h7, h8⟩ := cd.ex
  exact pd_meth (pl := pl) h1 h2 h3 h4 h5 (hr.mono hk) h6 h7 h8 ho ha hst hpl ht
theorem pq_m0 {pl : Sem Bool} (cd : Cm X.prog X.w X.K X.mg X.base k c m n F dd) (hr : RoomG j X.A) (hk : k ≤ j) (ho : PD X WF o fo)
    (ht : eval (.Call (.Attribute o m apos) [] [] pos) X.env = (do
      let ov ← eval o X.env
      standAt apos.atName
      let (f, first) ← holding [ov] (getMethod ov m pl)
      callWith pos f first (backTo pos (starEach [] X.env)) (backToKw pos (keywordEach [] X.env))) := by rfl) : PD X WF (.Call (.Attribute o m apos) [] [] pos) (dMeth [c] m F dd fo dNil) := by
  obtain ⟨C, f, fd, ps, dvs, ds, h1, h2, h3, h4, h5, h6, h7, h8⟩ := cd.ex
  exact pd_meth0 (pl := pl) h1 h2 h3 h4 h5 (hr.mono hk) h6 h7 h8 ho ht
theorem pq_mk (cd : Cc X.prog X.w X.K X.mg X.base k c n F dd) (hr : RoomG j X.A) (hk : k + 1 ≤ j) (ha : PDA X WF (e :: es) g) (hg : Gl X c := by rfl) (hdb : (c == ("__debug__" : Str)) = false := by decide)
    (he : starEach (e :: es) X.env = (false, eval e X.env) :: starEach es X.env := by rfl) (hpl : (backTo pos (starEach es X.env)).any (·.1) = false := by rfl) : PD X WF (.Call (.Name c p) (e :: es) [] pos) (dMake (makeF c) F dd g) := by
  obtain ⟨C, f, fd, ps, dvs, ds, h1, h2, h3, h4, h5, h6, h7⟩ := cd.ex
  exact pd_makeF h2 h3 h4 (hr.mono hk) h1 h5 h6 h7 ha hg hdb he hpl
end

/-! ### comprehensions -/
abbrev Blk (X : Cx) (scope : Scope) (φ : Cx → Prop) : Prop := ∀ (s : Shared) (H : Hp) (C : Addr) (cl : List (Str × Addr)) (fp : List Addr), φ (X.blk s H scope (compEnvC scope cl C X.env) fp)
def subC (a b : List Nat) : Bool := a.all fun i => b.contains i
theorem subC_of {a b : List Nat} (h : subC a b = true) : ∀ i ∈ a, i ∈ b := fun i hi => by
  have := List.all_eq_true.mp h i hi
  simpa using this
section
variable {X : Cx} {Wx : XK} {elt kx tg iter tg1 iter1 tg2 iter2 : Expr} {ifs ifs1 ifs2 : List Expr} {scope : Scope} {pos : Pos} {ts ts1 ts2 : List Nat} {wi wi1 wi2 : En → M Wl} {g g1 g2 : D → En → M En} {t t1 t2 : En → M Bool} {f fk : En → M D}
/-- [f for tg in iter if ..] -/
theorem pq_lc (own : List (Str × Nat)) (hc : X.calm = true) (hN : X.N.Nodup) (hi : PDI X Wx tg iter wi) (hg : Blk X scope fun Y => PDG Y WF tg ts g) (ht : Blk X scope fun Y => PDTs Y WF ifs t) (he : Blk X scope fun Y => PD Y WF elt f)
    (hb : blkC X.N X.env.scope scope own = true := by rfl) (hts : subC ts (own.map (·.2)) = true := by rfl) (hs : ∀ x, foldedSetIterable iter X.env x = pure x := by intro _; rfl) :
    PD X Wx (.ListComp elt [⟨tg, iter, ifs, 0⟩] scope pos) (dComp (.lst []) wi g t (own.map (·.2)) (emL f)) :=
  pd_comp0 (key := none) (gens := []) (us := []) (o0 := .lst []) hc hN hi (blkOk_by hb) (.inl rfl) hg ht (fun s H C cl fp => pdc_emL rfl (he s H C cl fp) rfl) (fun j hj => by cases hj) (subC_of hts) rfl (fun w => .nil) hs
/-- name = [f for tg in iter if ..] on one line, the name a plain local -/
theorem pq_setlc (i : Nat) (own : List (Str × Nat)) {y : Str} {py spos : Pos} (hc : X.calm = true) (hN : X.N.Nodup) (hi : PDI X Wx tg iter wi) (hg : Blk X scope fun Y => PDG Y WF tg ts g) (ht : Blk X scope fun Y => PDTs Y WF ifs t) (he : Blk X scope fun Y => PD Y WF elt f)
    (hk : X.env.scope.kind = .function := by rfl) (hl : (py.line == pos.line) = true := by rfl) (ha : (scope.names.any fun (n, k) => n == y && (k == .local || k == .cell)) = false := by rfl)
    (hy : X.N[i]? = some y := by rfl) (hyl : X.env.scope.names.lookup y = some .local := by rfl) (hb : blkC X.N X.env.scope scope own = true := by rfl) (hts : subC ts (own.map (·.2)) = true := by rfl) (hs : ∀ x, foldedSetIterable iter X.env x = pure x := by intro _; rfl) :
    PDS X Wx (.Assign [.Name y py] (.ListComp elt [⟨tg, iter, ifs, 0⟩] scope pos) spos) (dSet i (dComp (.lst []) wi g t (own.map (·.2)) (emL f))) :=
  pds_setC0 (gens := []) (us := []) hc hN hy hyl (sw_true hk hyl hl ha) hi (blkOk_by hb) (.inl rfl) hg ht (fun s H C cl fp => pdc_emL rfl (he s H C cl fp) rfl) (fun j hj => by cases hj) (subC_of hts) hs
/-- .. of two clauses -/
theorem pq_lc2 (own : List (Str × Nat)) (vs1 : List Nat) (hc : X.calm = true) (hN : X.N.Nodup) (hi : PDI X Wx tg iter wi) (hg : Blk X scope fun Y => PDG Y WF tg ts g) (ht : Blk X scope fun Y => PDTs Y WF ifs t)
    (hi1 : Blk X scope fun Y => PDI Y WF tg1 iter1 wi1) (hg1 : Blk X scope fun Y => PDG Y WF tg1 ts1 g1) (ht1 : Blk X scope fun Y => PDTs Y WF ifs1 t1) (he : Blk X scope fun Y => PD Y WF elt f)
    (hb : blkC X.N X.env.scope scope own = true := by rfl) (hts : subC ts (own.map (·.2)) = true := by rfl) (hv1 : subC vs1 (own.map (·.2)) = true := by rfl) (hts1 : subC ts1 vs1 = true := by rfl)
    (hs : ∀ x, foldedSetIterable iter X.env x = pure x := by intro _; rfl) (hs1 : ∀ env x, foldedSetIterable iter1 env x = pure x := by intro _ _; rfl) :
    PD X Wx (.ListComp elt [⟨tg, iter, ifs, 0⟩, ⟨tg1, iter1, ifs1, 0⟩] scope pos) (dComp (.lst []) wi g t (own.map (·.2)) (cCl wi1 g1 t1 vs1 (emL f))) :=
  pd_comp0 (key := none) (gens := [⟨tg1, iter1, ifs1, 0⟩]) (us := vs1) (o0 := .lst []) hc hN hi (blkOk_by hb) (.inr ⟨_, _, _, rfl⟩) hg ht
    (fun s H C cl fp => pdc_cl rfl (.inl rfl) (hs1 _) hc rfl (hi1 s H C cl fp) (hg1 s H C cl fp) (ht1 s H C cl fp) (pdc_emL rfl (he s H C cl fp) rfl) (fun j hj => by cases hj) (subC_of hts1)) (subC_of hv1) (subC_of hts) rfl (fun w => .nil) hs
/-- .. of three clauses -/
theorem pq_lc3 (own : List (Str × Nat)) (vs1 vs2 : List Nat) (hc : X.calm = true) (hN : X.N.Nodup) (hi : PDI X Wx tg iter wi) (hg : Blk X scope fun Y => PDG Y WF tg ts g) (ht : Blk X scope fun Y => PDTs Y WF ifs t)
    (hi1 : Blk X scope fun Y => PDI Y WF tg1 iter1 wi1) (hg1 : Blk X scope fun Y => PDG Y WF tg1 ts1 g1) (ht1 : Blk X scope fun Y => PDTs Y WF ifs1 t1) (hi2 : Blk X scope fun Y => PDI Y WF tg2 iter2 wi2) (hg2 : Blk X scope fun Y => PDG Y WF tg2 ts2 g2) (ht2 : Blk X scope fun Y => PDTs Y WF ifs2 t2) (he : Blk X scope fun Y => PD Y WF elt f)
    (hb : blkC X.N X.env.scope scope own = true := by rfl) (hts : subC ts (own.map (·.2)) = true := by rfl) (hv1 : subC vs1 (own.map (·.2)) = true := by rfl) (hts1 : subC ts1 vs1 = true := by rfl) (hv2 : subC vs2 vs1 = true := by rfl) (hts2 : subC ts2 vs2 = true := by rfl)
    (hs : ∀ x, foldedSetIterable iter X.env x = pure x := by intro _; rfl) (hs1 : ∀ env x, foldedSetIterable iter1 env x = pure x := by intro _ _; rfl) (hs2 : ∀ env x, foldedSetIterable iter2 env x = pure x := by intro _ _; rfl) :
    PD X Wx (.ListComp elt [⟨tg, iter, ifs, 0⟩, ⟨tg1, iter1, ifs1, 0⟩, ⟨tg2, iter2, ifs2, 0⟩] scope pos) (dComp (.lst []) wi g t (own.map (·.2)) (cCl wi1 g1 t1 vs1 (cCl wi2 g2 t2 vs2 (emL f)))) :=
  pd_comp0 (key := none) (gens := [⟨tg1, iter1, ifs1, 0⟩, ⟨tg2, iter2, ifs2, 0⟩]) (us := vs1) (o0 := .lst []) hc hN hi (blkOk_by hb) (.inr ⟨_, _, _, rfl⟩) hg ht
    (fun s H C cl fp => pdc_cl rfl (.inr ⟨_, _, _, rfl⟩) (hs1 _) hc rfl (hi1 s H C cl fp) (hg1 s H C cl fp) (ht1 s H C cl fp)
      (pdc_cl rfl (.inl rfl) (hs2 _) hc rfl (hi2 s H C cl fp) (hg2 s H C cl fp) (ht2 s H C cl fp) (pdc_emL rfl (he s H C cl fp) rfl) (fun j hj => by cases hj) (subC_of hts2)) (subC_of hv2) (subC_of hts1)) (subC_of hv1) (subC_of hts) rfl (fun w => .nil) hs
end
/-! ### dict comprehensions -/
def emD (fk f : En → M D) : CB := fun ρ acc => bnd (fk ρ) fun x => bnd (f ρ) fun y => match dctPut acc x y with
  | some c => ret c
  | none => stuck
theorem pdc_emD {Y : Cx} {elt kx : Expr} {gens : List Comprehension} {scope : Scope} {pos : Pos} {d : Nat} {f fk : En → M D} (h : gens[d]? = none) (hk : PD Y WF kx fk) (he : PD Y WF elt f) (hu : Y.A.units + 1 < cLine) (hx : Y.xe = fun _ _ => False) : PDC Y (some kx) elt gens scope pos d [] (emD fk f) := fun Dd =>
  pct_mono (pct_emD h hk he hu hx) fun σ H N ⟨w, ρ, s, d, o, hs, hh, env, ro, run⟩ => ⟨w, ρ, s, env, RunC.bindE run fun w1 x vx H1 s1 le1 r1 run1 => ⟨w1, ρ, s1, env.mono le1, RunC.bindE run1 fun w2 y vy H2 s2 le2 r2 run2 => by
    cases e : dctPut d x y with
    | none => rw [e] at run2; exact run2.no
    | some c =>
      rw [e] at run2
      have h2 : w2.hold = (Dd, o) :: hs := by rw [le2.hd, le1.hd, hh]
      have st2 := run2.1
      have hD := (st2.hld (Dd, o) (by rw [h2]; exact List.mem_cons_self ..)).1
      obtain ⟨o', h3, h4⟩ := dctPut_of st2.ex (ro.mono (le1.trans le2)) hD (r1.mono le2) r2 e
      obtain ⟨F2, α2, hold2⟩ := w2
      cases h2
      have le0 : (⟨F2, α2, (Dd, o) :: hs⟩ : DS.W).le0 ⟨F2, α2, (Dd, o') :: hs⟩ := ⟨Same.refl _, List.prefix_refl _⟩
      exact ⟨_, h3, run2.get (w' := ⟨F2, α2, (Dd, o') :: hs⟩) le0 rfl (h4.mono0 le0) (Sto.holdSet (w := ⟨F2, α2, []⟩) st2)⟩⟩⟩
section
variable {X : Cx} {Wx : XK} {j : Nat} {elt kx tg iter : Expr} {ifs : List Expr} {scope : Scope} {pos : Pos} {ts : List Nat} {wi : En → M Wl} {g : D → En → M En} {t : En → M Bool} {f fk : En → M D}
/-- {k: f for tg in iter if ..}, keys tuples -/
theorem pq_dcT (own : List (Str × Nat)) (hr : RoomG j X.A) (hc : X.calm = true) (hN : X.N.Nodup) (hi : PDI X Wx tg iter wi) (hg : Blk X scope fun Y => PDG Y WF tg ts g) (ht : Blk X scope fun Y => PDTs Y WF ifs t) (hk : Blk X scope fun Y => PD Y WF kx fk) (he : Blk X scope fun Y => PD Y WF elt f)
    (hb : blkC X.N X.env.scope scope own = true := by rfl) (hts : subC ts (own.map (·.2)) = true := by rfl) (hs : ∀ x, foldedSetIterable iter X.env x = pure x := by intro _; rfl) :
    PD X Wx (.DictComp kx elt [⟨tg, iter, ifs, 0⟩] scope pos) (dComp (.dT [] []) wi g t (own.map (·.2)) (emD fk f)) :=
  pd_comp0 (key := some kx) (gens := []) (us := []) (o0 := .dT []) hc hN hi (blkOk_by hb) (.inl rfl) hg ht (fun s H C cl fp => pdc_emD rfl (hk s H C cl fp) (he s H C cl fp) hr.u1 rfl) (fun j hj => by cases hj) (subC_of hts) (.inr rfl) (fun w => ⟨rfl, .nil⟩) hs
theorem pq_dcK (own : List (Str × Nat)) (hr : RoomG j X.A) (hc : X.calm = true) (hN : X.N.Nodup) (hi : PDI X Wx tg iter wi) (hg : Blk X scope fun Y => PDG Y WF tg ts g) (ht : Blk X scope fun Y => PDTs Y WF ifs t) (hk : Blk X scope fun Y => PD Y WF kx fk) (he : Blk X scope fun Y => PD Y WF elt f)
    (hb : blkC X.N X.env.scope scope own = true := by rfl) (hts : subC ts (own.map (·.2)) = true := by rfl) (hs : ∀ x, foldedSetIterable iter X.env x = pure x := by intro _; rfl) :
    PD X Wx (.DictComp kx elt [⟨tg, iter, ifs, 0⟩] scope pos) (dComp (.dK [] []) wi g t (own.map (·.2)) (emD fk f)) :=
  pd_comp0 (key := some kx) (gens := []) (us := []) (o0 := .dK []) hc hN hi (blkOk_by hb) (.inl rfl) hg ht (fun s H C cl fp => pdc_emD rfl (hk s H C cl fp) (he s H C cl fp) hr.u1 rfl) (fun j hj => by cases hj) (subC_of hts) (.inl rfl) (fun w => ⟨rfl, .nil⟩) hs
end

/-! ### a def by its body, for printed terms -/
section
variable {P : Program} {w : World} {K : PySem.W.Frag} {mg : Str → Option Value} {base : Heap} {x qual : Str} {params : Arguments} {body : List Stmt} {scope : Scope} {dvs : List V} {kws : List (Str × V)} {f : Addr} {fd : FuncData} {N ps : List Str} {k n m : Nat} {b : En → M Fl} {G : List D → M D}
theorem fq_F (F : FunD K x qual params body scope dvs kws f fd) (S : FnScope N ps scope) (hn : n = ps.length) (hm : m = N.length) (hG : G = frmF n m b)
    (hb : ∀ (cdv : Value) (A : Around) (outer : List Env) (s : Shared) (H : Hp) (E : XK), RoomG k (A.deeper (envOfC qual scope s.heap.objs.size f cdv)) → PDSs (cxOf L2.CX0 P w K mg base N qual scope f cdv A outer s H E).nox WF body b) :
    FnG P w K mg base L2.CX0 (k + 1) f fd ps (spD K mg n G) := by
  subst hn hm hG
  exact fd_F F S hb
theorem fq_K (F : FunD K x qual params body scope dvs kws f fd) (S : FnScope N ps scope) (hn : n = ps.length) (hm : m = N.length) (hG : G = frmK n m b)
    (hb : ∀ (cdv : Value) (A : Around) (outer : List Env) (s : Shared) (H : Hp) (E : XK), RoomG k (A.deeper (envOfC qual scope s.heap.objs.size f cdv)) → PDSs (cxOf L2.CX0 P w K mg base N qual scope f cdv A outer s H E).nox WF body b) :
    FnG P w K mg base L2.CX0 (k + 1) f fd ps (spD K mg n G) := by
  subst hn hm hG
  exact fd_K F S hb
end
/-! ### a, b = x, y -/
def dPar (i j : Nat) (g : En → M (List D)) : En → M Fl := fun ρ => bnd (g ρ) fun xs => match xs with
  | [x, y] => ret (.nx ((ρ.set i (some x)).set j (some y)))
  | _ => stuck
theorem pds_par {X : Cx} {Wx : XK} (i j : Nat) {x y : Str} {a b : Expr} {g : En → M (List D)} {px py pt pos : Pos} {kt k2 pt2} (hc : X.calm = true) (hN : X.N.Nodup) (ha : PDA X Wx [a, b] g) (hi : X.N[i]? = some x := by rfl) (hj : X.N[j]? = some y := by rfl) (hij : i ≠ j := by decide)
    (hx : X.env.scope.names.lookup x = some .local := by rfl) (hy : X.env.scope.names.lookup y = some .local := by rfl)
    (hw : swappedStores [.Tuple [.Name x px, .Name y py] kt pt] (.Tuple [a, b] k2 pt2) X.env = pure (some [x, y]) := by rfl)
    (hs : swapsWithSole [.Tuple [.Name x px, .Name y py] kt pt] (.Tuple [a, b] k2 pt2) pos.line X.env = pure false := by rfl) :
    PDS X Wx (.Assign [.Tuple [.Name x px, .Name y py] kt pt] (.Tuple [a, b] k2 pt2) pos) (dPar i j g) :=
  ps_mono (ps_par hc hN hi hj hij hx hy ha hw hs) fun D σ H ⟨w, ρ, s, env, run⟩ => ⟨w, ρ, s, env, run.bind fun w1 xs vs H1 s1 le1 r1 run1 => by
    cases r1 with
    | nil => exact run1.no
    | cons ra r2 =>
      cases r2 with
      | nil => exact run1.no
      | cons rb r3 =>
        cases r3 with
        | cons _ _ => exact run1.no
        | nil => exact ⟨_, _, rfl, Run.here (b := FlV.nx _) run1 (((env.mono le1).set ra).set rb)⟩⟩
end DS
/-! DSK: the mirrors computed: rows for simp -/
namespace DS
open PySem L2 PySem.Spec PyProof.Rows
section
variable {f g h : En → M D} {t u : En → M Bool} {fa ga : En → M (List D)} {b c : En → M Fl} {ρ : En} {d x y : D} {ds es : List D} {i j : Int} {n m : Nat}
@[simp] theorem k_ret : dRet f ρ = bnd (f ρ) fun d => ret (.rt d) := rfl
@[simp] theorem k_retN : dRetN ρ = ret (.rt .non) := rfl
@[simp] theorem k_next : dNext ρ = ret (.nx ρ) := rfl
@[simp] theorem k_cont : dCont ρ = ret (.ct ρ) := rfl
@[simp] theorem k_break : dBreak ρ = ret (.bk ρ) := rfl
@[simp] theorem k_stuck : dStuck ρ = stuck := rfl
@[simp] theorem k_seq : dSeq b c ρ = bnd (b ρ) (thenS c) := rfl
@[simp] theorem k_then_nx : thenS c (.nx ρ) = c ρ := rfl
@[simp] theorem k_then_rt : thenS c (.rt d) = ret (.rt d) := rfl
@[simp] theorem k_then_bk : thenS c (.bk ρ) = ret (.bk ρ) := rfl
@[simp] theorem k_then_ct : thenS c (.ct ρ) = ret (.ct ρ) := rfl
@[simp] theorem k_set : dSet n f ρ = bnd (f ρ) fun d => ret (.nx (ρ.set n (some d))) := rfl
@[simp] theorem k_asg {tg : D → En → M En} : dAsg f tg ρ = bnd (f ρ) fun d => bnd (tg d ρ) fun ρ' => ret (.nx ρ') := rfl
@[simp] theorem k_exp : dExp f ρ = bnd (f ρ) fun _ => ret (.nx ρ) := rfl
@[simp] theorem k_ifs : dIfS t b c ρ = bnd (t ρ) fun k => if k = true then b ρ else c ρ := rfl
theorem k_par : dPar n m fa ρ = bnd (fa ρ) fun xs => match xs with
  | [x, y] => ret (.nx ((ρ.set n (some x)).set m (some y)))
  | _ => stuck := rfl
@[simp] theorem k_and : dAnd f g ρ = bnd (f ρ) fun x => bnd (isB x) fun c => if c = true then g ρ else ret (.bl false) := rfl
@[simp] theorem k_or : dOr f g ρ = bnd (f ρ) fun x => bnd (isB x) fun c => if c = true then ret (.bl true) else g ρ := rfl
@[simp] theorem k_not : dNot f ρ = bnd (f ρ) fun x => bnd (isB x) fun c => ret (.bl (!c)) := rfl
@[simp] theorem k_isB {k : Bool} : isB (.bl k) = ret k := rfl
@[simp] theorem k_if : dIf t f g ρ = bnd (t ρ) fun c => if c = true then f ρ else g ρ := rfl
@[simp] theorem k_un {o : D → M D} : dUn o f ρ = bnd (f ρ) o := rfl
@[simp] theorem k_bin {o : D → D → M D} : dBin o f g ρ = bnd (f ρ) fun x => bnd (g ρ) fun y => o x y := rfl
@[simp] theorem k_chn {o o' : D → D → M D} : dChn o o' f g h ρ = bnd (f ρ) fun x => bnd (g ρ) fun y => bnd (o x y) fun z => bnd (isB z) fun t => if t = true then bnd (h ρ) fun u => o' y u else ret (.bl false) := rfl
@[simp] theorem k_tst : dTst f ρ = bnd (f ρ) isB := rfl
@[simp] theorem k_tand : tAndD t u ρ = bnd (t ρ) fun c => if c = true then u ρ else ret false := rfl
@[simp] theorem k_tor : tOrD t u ρ = bnd (t ρ) fun c => if c = true then ret true else u ρ := rfl
@[simp] theorem k_tnot : tNotD t ρ = bnd (t ρ) fun c => ret (!c) := rfl
@[simp] theorem k_true : tTrue ρ = ret true := rfl
@[simp] theorem k_c : dC d ρ = ret d := rfl
@[simp] theorem k_nil : dNil ρ = ret [] := rfl
@[simp] theorem k_cons : dCons f fa ρ = bnd (f ρ) fun x => bnd (fa ρ) fun xs => ret (x :: xs) := rfl
@[simp] theorem k_star : dStar f fa ρ = bnd (f ρ) fun x => bnd (oItems x) fun ys => bnd (fa ρ) fun xs => ret (ys ++ xs) := rfl
@[simp] theorem k_tup : dTup fa ρ = bnd (fa ρ) fun xs => if xs.length ≤ CAP then ret (.tup xs) else stuck := rfl
@[simp] theorem k_lst : dLst fa ρ = bnd (fa ρ) fun xs => if xs.length ≤ CAP then ret (.lst xs) else stuck := rfl
@[simp] theorem k_lstM : dLstM fa ρ = bnd (fa ρ) fun xs => if xs.length ≤ CAP then mk (.lst xs) else stuck := rfl
@[simp] theorem k_newT : dNewT ρ = mk (.dT [] []) := rfl
@[simp] theorem k_newK : dNewK ρ = mk (.dK [] []) := rfl
@[simp] theorem k_cb {o : List D → M D} : dCB o fa ρ = bnd (fa ρ) o := rfl
@[simp] theorem k_call {F : List D → M D} : dCall F ds fa ρ = bnd (fa ρ) fun xs => F (xs ++ ds) := rfl
@[simp] theorem k_callK {F : List D → M D} {perm : Pm} : dCallK F perm fa ga ρ = bnd (fa ρ) fun xs => bnd (ga ρ) fun zs => F (gP perm xs zs) := rfl
@[simp] theorem k_sl {l k : En → M (Option Int)} : dSl f l k ρ = bnd (f ρ) fun x => bnd (l ρ) fun lo => bnd (k ρ) fun hi => oSl x lo hi := rfl
@[simp] theorem k_part : dPart f ρ = bnd (f ρ) isI := rfl
@[simp] theorem k_nopart : dNoPart ρ = ret none := rfl
@[simp] theorem k_isI : isI (.int i) = ret (some i) := rfl
@[simp] theorem k_gname : gdName n d ρ = ret (ρ.set n (some d)) := rfl
@[simp] theorem k_gseq {k : List D → En → M En} : gdSeq n k d ρ = bnd (oItems d) fun ds => if ds.length = n then k ds ρ else stuck := rfl
@[simp] theorem k_gcons {k : D → En → M En} {l : List D → En → M En} : gdCons k l (d :: ds) ρ = bnd (k d ρ) fun ρ' => l ds ρ' := rfl
@[simp] theorem k_gnil : gdNil [] ρ = ret ρ := rfl
@[simp] theorem k_items_t : oItems (.tup ds) = ret ds := rfl
@[simp] theorem k_items_g : oItems (.gtp ds) = ret ds := rfl
@[simp] theorem k_items_l : oItems (.lst ds) = ret ds := rfl
@[simp] theorem k_items_s : oItems (.scr ds) = ret ds := rfl
/-! operations -/
@[simp] theorem k_sub : oSub (.int i) (.int j) = ret (.int (i - j)) := rfl
@[simp] theorem k_add : oAdd (.int i) (.int j) = ret (.int (i + j)) := rfl
@[simp] theorem k_lt : oLt (.int i) (.int j) = ret (.bl (decide (i < j))) := rfl
@[simp] theorem k_le : oLe (.int i) (.int j) = ret (.bl (decide (i ≤ j))) := rfl
@[simp] theorem k_gt : oGt (.int i) (.int j) = ret (.bl (decide (j < i))) := rfl
@[simp] theorem k_ge : oGe (.int i) (.int j) = ret (.bl (decide (j ≤ i))) := rfl
@[simp] theorem k_neg : oNeg (.int i) = ret (.int (-i)) := rfl
@[simp] theorem k_isN : oIs x .non = ret (.bl (isNon x)) := by cases x <;> rfl
@[simp] theorem k_isntN : oIsNot x .non = ret (.bl (!isNon x)) := by cases x <;> rfl
@[simp] theorem k_isNon : isNon .non = true := rfl
@[simp] theorem k_isNon_i : isNon (.int i) = false := rfl
@[simp] theorem k_isNon_t : isNon (.tup ds) = false := rfl
theorem k_mod (hj : 0 < j) : oMod (.int i) (.int j) = ret (.int (i % j)) := if_pos hj
theorem k_fdv (hj : 0 < j) (h2 : j < 1073741824) : oFdv (.int i) (.int j) = ret (.int (i / j)) := if_pos ⟨hj, h2⟩
theorem k_mul (h : CMul i j) : oMul (.int i) (.int j) = ret (.int (i * j)) := if_pos h
theorem eqB_int : eqB (.int i) (.int j) = some (i == j) := by
  unfold eqB
  rw [toPy, toPy]
  dsimp only
  rw [if_pos ⟨by simp [SeqAt.shaped, PyData.canLay0, PyData.depth], by simp [SeqAt.shaped, PyData.canLay0, PyData.depth]⟩, PyData.eqv]
theorem eqB_str {a b : Str} (ha : PyData.strOk a = true) (hb : PyData.strOk b = true) : eqB (.str a) (.str b) = some (a == b) := by
  unfold eqB
  rw [toPy, toPy]
  dsimp only
  rw [if_pos ⟨by simp [SeqAt.shaped, PyData.canLay0, PyData.depth, ha], by simp [SeqAt.shaped, PyData.canLay0, PyData.depth, hb]⟩, PyData.eqv]
@[simp] theorem k_eq_i : oEq (.int i) (.int j) = ret (.bl (i == j)) := by unfold oEq; rw [eqB_int]
@[simp] theorem k_ne_i : oNe (.int i) (.int j) = ret (.bl (!(i == j))) := by unfold oNe; rw [eqB_int]
@[simp] theorem k_eq_s {a b : Str} (ha : PyData.strOk a = true) (hb : PyData.strOk b = true) : oEq (.str a) (.str b) = ret (.bl (a == b)) := by unfold oEq; rw [eqB_str ha hb]
@[simp] theorem k_ne_s {a b : Str} (ha : PyData.strOk a = true) (hb : PyData.strOk b = true) : oNe (.str a) (.str b) = ret (.bl (!(a == b))) := by unfold oNe; rw [eqB_str ha hb]
/-! built-ins -/
@[simp] theorem k_len_t : oLen [.tup ds] = ret (.int (ds.length : Int)) := rfl
@[simp] theorem k_len_g : oLen [.gtp ds] = ret (.int (ds.length : Int)) := rfl
@[simp] theorem k_len_l : oLen [.lst ds] = ret (.int (ds.length : Int)) := rfl
@[simp] theorem k_len_s : oLen [.scr ds] = ret (.int (ds.length : Int)) := rfl
@[simp] theorem k_tuple_t : oTuple [.tup ds] = ret (.tup ds) := rfl
@[simp] theorem k_tuple_l : oTuple [.lst ds] = ret (.tup ds) := rfl
@[simp] theorem k_list_t : oList [.tup ds] = ret (.lst ds) := rfl
@[simp] theorem k_list_l : oList [.lst ds] = ret (.lst ds) := rfl
@[simp] theorem k_int : oInt [.int i] = ret (.int i) := rfl
@[simp] theorem k_abs : oAbs [.int i] = ret (.int (if i < 0 then -i else i)) := rfl
@[simp] theorem k_max : oMax2 [.int i, .int j] = ret (.int (if j > i then j else i)) := rfl
@[simp] theorem k_min : oMin2 [.int i, .int j] = ret (.int (if j < i then j else i)) := rfl
theorem k_divmod (hj : 0 < j) (h2 : j < 1073741824) : oDivmod [.int i, .int j] = ret (.tup [.int (i / j), .int (i % j)]) := if_pos ⟨hj, h2⟩
@[simp] theorem k_all : oAll [.lst ds] = bnd (ofO (bls ds)) fun bs => ret (.bl (bs.all id)) := rfl
@[simp] theorem k_any : oAny [.lst ds] = bnd (ofO (bls ds)) fun bs => ret (.bl (bs.any id)) := rfl
@[simp] theorem k_sum : oSum [.lst ds] = bnd (ofO (numsL ds)) fun bs => ret (.int bs.sum) := rfl
@[simp] theorem k_bls_nil : bls [] = some [] := rfl
@[simp] theorem k_bls_cons {k : Bool} : bls (.bl k :: ds) = (bls ds).map (k :: ·) := rfl
@[simp] theorem k_nums_nil : numsL [] = some [] := rfl
@[simp] theorem k_nums_cons : numsL (.int i :: ds) = (numsL ds).map (i :: ·) := rfl
@[simp] theorem k_ofO {α : Type} {a : α} : ofO (some a) = ret a := rfl
/-! types -/
@[simp] theorem k_isi {T : String} : oIsi T d = match tyD d with
  | some t => bnd (ofO (kitB t T)) fun b => ret (.bl b)
  | none => stuck := rfl
@[simp] theorem k_ty_i : tyD (.int i) = some "int" := rfl
@[simp] theorem k_ty_b {k : Bool} : tyD (.bl k) = some "bool" := rfl
@[simp] theorem k_ty_n : tyD .non = some "NoneType" := rfl
@[simp] theorem k_ty_s {z : Str} : tyD (.str z) = some "str" := rfl
@[simp] theorem k_ty_t : tyD (.tup ds) = some "tuple" := rfl
@[simp] theorem k_ty_g : tyD (.gtp ds) = some "tuple" := rfl
@[simp] theorem k_ty_l : tyD (.lst ds) = some "list" := rfl
@[simp] theorem k_kit1 : kitB "int" "int" = some true := by decide +kernel
@[simp] theorem k_kit2 : kitB "int" "bool" = some false := by decide +kernel
@[simp] theorem k_kit3 : kitB "int" "tuple" = some false := by decide +kernel
@[simp] theorem k_kit4 : kitB "int" "str" = some false := by decide +kernel
@[simp] theorem k_kit5 : kitB "tuple" "tuple" = some true := by decide +kernel
@[simp] theorem k_kit6 : kitB "tuple" "int" = some false := by decide +kernel
@[simp] theorem k_kit7 : kitB "str" "str" = some true := by decide +kernel
@[simp] theorem k_kit8 : kitB "str" "int" = some false := by decide +kernel
@[simp] theorem k_kit9 : kitB "str" "tuple" = some false := by decide +kernel
@[simp] theorem k_kit10 : kitB "tuple" "str" = some false := by decide +kernel
@[simp] theorem k_kit11 : kitB "bool" "int" = some true := by decide +kernel
@[simp] theorem k_kit12 : kitB "bool" "bool" = some true := by decide +kernel
@[simp] theorem k_kit13 : kitB "list" "tuple" = some false := by decide +kernel
/-! indices -/
@[simp] theorem k_ix_t {y : D} : oIxG (.tup ds) y = oIx (.tup ds) y := by cases y <;> rfl
@[simp] theorem k_ix_g {y : D} : oIxG (.gtp ds) y = oIx (.gtp ds) y := by cases y <;> rfl
@[simp] theorem k_ix_l {y : D} : oIxG (.lst ds) y = oIx (.lst ds) y := by cases y <;> rfl
@[simp] theorem k_ix_s {y : D} : oIxG (.scr ds) y = oIx (.scr ds) y := by cases y <;> rfl
@[simp] theorem k_ixi_t : oIx (.tup ds) (.int i) = ofO (atI ds i) := rfl
@[simp] theorem k_ixi_g : oIx (.gtp ds) (.int i) = ofO (atI ds i) := rfl
@[simp] theorem k_ixi_l : oIx (.lst ds) (.int i) = ofO (atI ds i) := rfl
@[simp] theorem k_ixi_s : oIx (.scr ds) (.int i) = ofO (atI ds i) := rfl
theorem frm_pure {N : Nat} (hl : ds.length = n) (hb : b (startD N ds) = ret (.rt d)) (hd : noRef d = true) : frmF n N b ds = ret d := by
  funext s
  unfold frmF
  rw [if_pos hl, hb]
  show (if s.objs.length :: s.bases = s.objs.length :: s.bases then _ else none) = _
  rw [if_pos rfl]
  unfold fz
  rw [sub_noRef _ d hd]
  show some (Except.ok d, (⟨s.bases, s.objs.take s.objs.length⟩ : S)) = some (.ok d, s)
  rw [List.take_length]
theorem frm_pureN {N : Nat} {ρ : En} (hl : ds.length = n) (hb : b (startD N ds) = ret (.nx ρ)) : frmF n N b ds = ret .non := by
  funext s
  unfold frmF
  rw [if_pos hl, hb]
  show (if s.objs.length :: s.bases = s.objs.length :: s.bases then _ else none) = _
  rw [if_pos rfl]
  unfold fz
  rw [sub_noRef _ .non rfl]
  show some (Except.ok D.non, (⟨s.bases, s.objs.take s.objs.length⟩ : S)) = some (.ok D.non, s)
  rw [List.take_length]
@[simp] theorem k_start {N : Nat} : startD N ds = ds.map some ++ List.replicate (N - ds.length) none := rfl
theorem k_var : dVar n ρ = match ρ[n]? with
  | some (some d) => ret d
  | _ => stuck := rfl
@[simp] theorem k_var0 {r : En} : dVar 0 (some d :: r) = ret d := rfl
@[simp] theorem k_vars {r : En} {o : Option D} : dVar (n + 1) (o :: r) = dVar n r := by
  unfold dVar
  rw [List.getElem?_cons_succ]
end
end DS
/-! DSL: the mirrors computed at a state: rows for simp -/
namespace DS
open PySem L2 PySem.Spec PyProof.Rows
section
variable {α β : Type} {f g h : En → M D} {t u : En → M Bool} {fa ga : En → M (List D)} {b c : En → M Fl} {ρ : En} {d x y d' : D} {ds es own objs : List D} {i j : Int} {n m N a : Nat} {s s' : S} {fl : Fl} {bs : List Nat}
theorem k_bnd {m : M α} {g : α → M β} : bnd m g s = match m s with
  | none => none
  | some (.error x, s1) => some (.error x, s1)
  | some (.ok a, s1) => g a s1 := rfl
theorem k_bnd_ok {m : M α} {g : α → M β} {a : α} (e : m s = some (.ok a, s')) : bnd m g s = g a s' := by rw [k_bnd, e]
theorem k_ret_s {a : α} : ret a s = some (.ok a, s) := rfl
theorem k_mk : mk d s = some (.ok (.ref s.objs.length), ⟨s.bases, s.objs ++ [d]⟩) := rfl
theorem k_look (e : s.objs[a]? = some d) : look a s = some (.ok d, s) := by unfold look; rw [e]
theorem k_put (e : s.objs[a]? = some x) (hx : isLck x = false) (hd : isLck d = false) (hh : headOk s.bases a d = true) : put a d s = some (.ok (), ⟨s.bases, s.objs.set a d⟩) := by
  unfold put
  rw [e, if_pos]
  rw [hh, hd]
  show (true && (!isLck x) && !false) = true
  rw [hx]
  rfl
theorem frm_run (hl : ds.length = n) (hb : b (startD N ds) ⟨s.objs.length :: s.bases, s.objs⟩ = some (.ok fl, ⟨s.objs.length :: s.bases, s.objs ++ own⟩)) (he : endV fl = some d) (hf : fz s.objs.length (s.objs ++ own) d = some d') : frmF n N b ds s = some (.ok d', s) := by
  unfold frmF
  rw [if_pos hl, hb]
  dsimp only
  rw [he]
  dsimp only
  rw [if_pos rfl, hf]
  dsimp only
  rw [List.take_left]
theorem fz_noRef {b : Nat} (h : noRef d = true) : fz b objs d = some d := sub_noRef _ d h
theorem fz_ref {b k : Nat} (e : (objs ++ own)[b + k]? = some x) (hs : sub (frzN b (objs ++ own) 8) x = some d') : fz b (objs ++ own) (.ref (b + k)) = some d' := by
  unfold fz
  rw [sub, frzN, if_neg (by omega), e]
  exact hs
theorem own_get {k : Nat} : (objs ++ own)[objs.length + k]? = own[k]? := by
  rw [List.getElem?_append_right (by omega), Nat.add_sub_cancel_left]
theorem own_set {k : Nat} : (objs ++ own).set (objs.length + k) d = objs ++ own.set k d := by
  rw [List.set_append_right _ _ (by omega), Nat.add_sub_cancel_left]
theorem makeF_run {F : List D → M D} {cn : Str} (hF : F (.ref s.objs.length :: ds) ⟨s.objs.length :: s.bases, s.objs ++ [.ins cn [] []]⟩ = some (.ok .non, ⟨s.objs.length :: s.bases, s.objs ++ own⟩)) (hf : fz s.objs.length (s.objs ++ own) (.ref s.objs.length) = some d') : makeF cn F ds s = some (.ok d', s) := by
  unfold makeF
  rw [hF]
  dsimp only
  rw [if_pos rfl, hf]
  dsimp only
  rw [List.take_left]
theorem frmK_run (hl : ds.length = n) (hb : b (startD N ds) s = some (.ok fl, s')) (he : endV fl = some d) : frmK n N b ds s = some (.ok d, s') := by
  unfold frmK
  rw [if_pos hl, hb]
  dsimp only
  rw [he]
theorem own_get0 : (objs ++ own)[objs.length]? = own[0]? := own_get (k := 0)
theorem own_set0 : (objs ++ own).set objs.length d = objs ++ own.set 0 d := own_set (k := 0)
end
end DS
/-! DSM: repr of plain data: its length, its letters -/
namespace DS
open PySem L2 PySem.Spec PyProof.Rows PyData
mutual
def plainP : PyData → Bool
  | .none => true
  | .bool _ => true
  | .int i => decide (i.natAbs < 10 ^ 15)
  | .list xs => plainL xs
  | .tuple xs => plainL xs
  | _ => false
def plainL : List PyData → Bool
  | [] => true
  | x :: xs => plainP x && plainL xs
end
mutual
def widP : PyData → Nat
  | .none => 4
  | .bool _ => 5
  | .int _ => 16
  | .list xs => widL xs + 2
  | .tuple xs => widL xs + 3
  | _ => 0
def widL : List PyData → Nat
  | [] => 0
  | x :: xs => widP x + 2 + widL xs
end
theorem ok_of (s : String) : strOk (Str.ofString s) = true := by
  rw [Str.ofString_eq_toList]
  unfold strOk
  simp only [List.all_toArray, List.all_map, List.all_eq_true, Function.comp, decide_eq_true_eq]
  intro c _
  have h : c.val.toNat < 55296 ∨ 57343 < c.val.toNat ∧ c.val.toNat < 1114112 := c.valid
  show c.val.toNat < 1114112
  omega
theorem ok_app {a b : Str} (ha : strOk a = true) (hb : strOk b = true) : strOk (a ++ b) = true := by
  show (a.cps ++ b.cps).all _ = true
  rw [Array.all_append]
  exact Bool.and_eq_true_iff.mpr ⟨ha, hb⟩
theorem ok_text : ∀ {ts : List Str} {k : Nat} {acc : Str}, strOk acc = true → (∀ t ∈ ts, strOk t = true) → strOk (textFrom k acc ts) = true
  | [], _, _, h, _ => h
  | t :: ts, k, acc, h, ht => ok_text (ts := ts) (ok_app (ok_app h (ok_of _)) (ht t (List.mem_cons_self ..))) fun u hu => ht u (List.mem_cons_of_mem _ hu)
theorem ok_join {sep : Str} (hs : strOk sep = true) : ∀ {ts : List Str}, (∀ t ∈ ts, strOk t = true) → strOk (Str.join sep ts) = true
  | [], _ => show strOk Str.empty = true by decide +kernel
  | [x], h => h x (List.mem_cons_self ..)
  | x :: y :: r, h => ok_app (ok_app (h x (List.mem_cons_self ..)) hs) (ok_join hs fun t ht => h t (List.mem_cons_of_mem _ ht))
theorem len_app (a b : Str) : (a ++ b).length = a.length + b.length := by
  show (a.cps ++ b.cps).size = _
  rw [Array.size_append]
  rfl
theorem len_list (ts : List Str) : (listText ts).length ≤ piled ts + 2 := by
  unfold listText
  rw [len_app]
  have e : (("]" : String) : Str).length = 1 := rfl
  rw [e]
  cases ts with
  | nil => decide
  | cons t r =>
    have h := textFrom_length_pos r 1 (("[" : Str) ++ (if (0 : Nat) > 0 then ", " else "" : String) ++ t) (Nat.succ_pos 0)
    have e2 : ((("[" : Str) ++ (if (0 : Nat) > 0 then ", " else "" : String) ++ t)).length = 1 + t.length := by
      rw [len_app, len_app]
      rfl
    have h3 : textFrom 0 "[" (t :: r) = textFrom 1 (("[" : Str) ++ (if (0 : Nat) > 0 then ", " else "" : String) ++ t) r := rfl
    rw [h3, h, e2, piled_cons]
    omega
theorem len_tup (ts : List Str) : (tupleText ts).length ≤ piled ts + 3 := by
  unfold tupleText
  rw [len_app, len_app]
  have e1 : ((("(" : String) : Str)).length = 1 := rfl
  have e3 : (((if ts.length == 1 then ",)" else ")" : String) : Str)).length ≤ 2 := by split <;> decide
  rw [e1]
  by_cases h : ts = []
  · subst h
    simp [piled, Str.join, Str.empty, Str.length] at e3 ⊢
    omega
  · have := join_length_add ts h
    omega
mutual
theorem shown_ok : ∀ {p : PyData}, plainP p = true → strOk (shown p) = true ∧ (shown p).length ≤ widP p ∧ showable p = true ∧ hasDict p = false
  | .none, _ => ⟨ok_of _, by decide, rfl, rfl⟩
  | .bool b, _ => by cases b <;> exact ⟨ok_of _, by decide, rfl, rfl⟩
  | .int i, h => by
    have h : i.natAbs < 10 ^ 15 := by simpa [plainP] using h
    refine ⟨ok_of _, ?_, ?_, rfl⟩
    · have := int_text_length_le10 (k := 15) (by decide) h
      show (Str.ofString (toString i)).length ≤ 16
      rw [PySem.ofString_length]
      exact this
    · show decide (i.natAbs.log2 < 1920) = true
      rw [decide_eq_true_iff]
      by_cases h0 : i.natAbs = 0
      · rw [h0]
        decide
      · exact Nat.lt_trans ((Nat.log2_lt (k := 50) h0).mpr (Nat.lt_of_lt_of_le h (by decide))) (by decide)
  | .list xs, h => by
    obtain ⟨h1, h2, h3, h4⟩ := shownL_ok (xs := xs) h
    refine ⟨ok_app (ok_text (ok_of _) h1) (ok_of _), ?_, h3, h4⟩
    have := len_list (shownAll xs)
    show (listText (shownAll xs)).length ≤ widL xs + 2
    omega
  | .tuple xs, h => by
    obtain ⟨h1, h2, h3, h4⟩ := shownL_ok (xs := xs) h
    refine ⟨ok_app (ok_app (ok_of _) (ok_join (ok_of _) h1)) (ok_of _), ?_, h3, h4⟩
    have := len_tup (shownAll xs)
    show (tupleText (shownAll xs)).length ≤ widL xs + 3
    omega
theorem shownL_ok : ∀ {xs : List PyData}, plainL xs = true → (∀ t ∈ shownAll xs, strOk t = true) ∧ piled (shownAll xs) ≤ widL xs ∧ showableAll xs = true ∧ hasDictAll xs = false
  | [], _ => ⟨fun t h => (by cases h), by decide, rfl, rfl⟩
  | x :: xs, h => by
    have h : (plainP x && plainL xs) = true := h
    rw [Bool.and_eq_true] at h
    obtain ⟨a1, a2, a3, a4⟩ := shown_ok h.1
    obtain ⟨b1, b2, b3, b4⟩ := shownL_ok h.2
    refine ⟨fun t ht => ?_, ?_, ?_, ?_⟩
    · rcases List.mem_cons.mp ht with rfl | ht
      · exact a1
      · exact b1 t ht
    · show piled (shown x :: shownAll xs) ≤ widP x + 2 + widL xs
      rw [piled_cons]
      omega
    · show (showable x && showableAll xs) = true
      rw [a3, b3]
      rfl
    · show (hasDict x || hasDictAll xs) = false
      rw [a4, b4]
      rfl
end
theorem k_repr {d : D} {p : PyData} (h : toPy d = some p) (hp : plainP p = true) (hw : widP p ≤ CAP) (hd : p.depth ≤ 40) (hs : isSeqD d = true) : oRepr [d] = ret (.str p.shown) := by
  obtain ⟨a1, a2, a3, a4⟩ := shown_ok hp
  unfold oRepr
  dsimp only
  rw [h]
  exact if_pos ⟨a3, a4, hd, by omega, hs⟩
theorem k_same_repr {p : PyData} (hp : plainP p = true) : oEq (.str p.shown) (.str p.shown) = ret (.bl true) := by
  rw [k_eq_s (shown_ok hp).1 (shown_ok hp).1]
  simp
end DS
/-! DSN: loops by invariant -/
namespace DS
open PySem L2 PySem.Spec PyProof.Rows
theorem forW_inv {ok : S → Prop} {b : D → En → M Fl} {E : En → Prop} {I : S → Prop} (hok : ∀ s, I s → ok s) : ∀ {ds : List D} {ρ : En} {s : S}, (∀ d ∈ ds, ∀ ρ s, E ρ → I s → ∃ ρ' s', E ρ' ∧ I s' ∧ b d ρ s = some (.ok (.nx ρ'), s')) → E ρ → I s →
    ∃ ρ' s', E ρ' ∧ I s' ∧ forW ok b ds ρ s = some (.ok (.nx ρ'), s')
  | [], ρ, s, _, e, i => ⟨ρ, s, e, i, by
    rw [forW]
    unfold chk
    rw [if_pos (hok s i)]
    rfl⟩
  | d :: ds, ρ, s, h, e, i => by
    obtain ⟨ρ1, s1, e1, i1, h1⟩ := h d (List.mem_cons_self ..) ρ s e i
    obtain ⟨ρ2, s2, e2, i2, h2⟩ := forW_inv hok (ds := ds) (fun d hd => h d (List.mem_cons_of_mem _ hd)) e1 i1
    refine ⟨ρ2, s2, e2, i2, ?_⟩
    rw [forW]
    unfold chk
    rw [if_pos (hok s i)]
    unfold bnd
    rw [h1]
    exact h2
/-- [x for n in range(lo, ..) if test(n)] over ints -/
theorem cLoop_filter {f : D → D → M D} {t : Int → Bool} : ∀ {k : Nat} {lo : Int} {xs : List D}, xs.length + k ≤ CAP → (∀ n xs, lo ≤ n → n < lo + k → xs.length < CAP → f (.int n) (.lst xs) = ret (.lst (if t n = true then xs ++ [.int n] else xs))) →
    cLoop (fun _ => True) f ((List.range k).map fun i => .int (lo + (i : Nat))) (.lst xs) = ret (.lst (xs ++ (((List.range k).map fun i => lo + ((i : Nat) : Int)).filter t).map .int))
  | 0, lo, xs, _, _ => by
    rw [List.range_zero, List.map_nil, cLoop, chk_true]
    simp
  | k + 1, lo, xs, hc, h => by
    have e : ((List.range (k + 1)).map fun i => D.int (lo + (i : Nat))) = .int lo :: ((List.range k).map fun i => .int (lo + 1 + (i : Nat))) := by
      rw [List.range_succ_eq_map, List.map_cons, List.map_map]
      congr 1
      · simp
      · apply List.map_congr_left
        intro i _
        simp only [Function.comp]
        congr 1
        omega
    have e' : ((List.range (k + 1)).map fun i => (lo + ((i : Nat) : Int))) = lo :: ((List.range k).map fun i => (lo + 1 + ((i : Nat) : Int))) := by
      rw [List.range_succ_eq_map, List.map_cons, List.map_map]
      congr 1
      · simp
      · apply List.map_congr_left
        intro i _
        simp only [Function.comp]
        omega
    rw [e, e', cLoop, chk_true, h lo xs (by omega) (by omega) (by omega), bnd_ret]
    have hl : (if t lo = true then xs ++ [D.int lo] else xs).length ≤ xs.length + 1 := by split <;> simp
    rw [cLoop_filter (t := t) (by omega) fun n xs h1 h2 h3 => h n xs (by omega) (by omega) h3]
    rw [List.filter_cons]
    by_cases ht : t lo = true
    · rw [if_pos ht, if_pos ht]
      simp
    · rw [if_neg ht, if_neg ht]
/-! a run that ends so -/
def Ends {α : Type} (o : Option α) (P : α → Prop) : Prop := ∃ r, o = some r ∧ P r
theorem Ends.mono {α : Type} {o : Option α} {P Q : α → Prop} (h : Ends o P) (k : ∀ r, P r → Q r) : Ends o Q := by
  obtain ⟨r, e, p⟩ := h
  exact ⟨r, e, k r p⟩
theorem ends_eq {α : Type} {o : Option α} {P : α → Prop} {r : α} (h : o = some r) (p : P r) : Ends o P := ⟨r, h, p⟩
section
variable {c1 c2 : En → M Fl} {ρ ρ1 : En} {s s1 : S} {P : Except D Fl × S → Prop}
theorem ends_nx (h : c1 ρ s = some (.ok (.nx ρ1), s1)) (k : Ends (c2 ρ1 s1) P) : Ends (dSeq c1 c2 ρ s) P := by
  obtain ⟨r, e, p⟩ := k
  refine ⟨r, ?_, p⟩
  rw [k_seq, k_bnd_ok h, k_then_nx]
  exact e
def PNx (E : En → Prop) (I : S → Prop) : Except D Fl × S → Prop := fun r => ∃ ρ' s', r = (.ok (.nx ρ'), s') ∧ E ρ' ∧ I s'
theorem ends_ex {E : En → Prop} {I : S → Prop} (h : Ends (c1 ρ s) (PNx E I)) (k : ∀ ρ1 s1, E ρ1 → I s1 → Ends (c2 ρ1 s1) P) : Ends (dSeq c1 c2 ρ s) P := by
  obtain ⟨r, e, ρ1, s1, rfl, he, hi⟩ := h
  exact ends_nx e (k ρ1 s1 he hi)
theorem ends_bnd {α β : Type} {m : M α} {g : α → M β} {a : α} {P : Except D β × S → Prop} (h : m s = some (.ok a, s1)) (k : Ends (g a s1) P) : Ends (bnd m g s) P := by
  obtain ⟨r, e, p⟩ := k
  exact ⟨r, by rw [k_bnd_ok h]; exact e, p⟩
theorem ends_for {wi : En → M Wl} {g : D → En → M En} {b : En → M Fl} {wl : Wl} {E : En → Prop} {I : S → Prop} (hw : wi ρ s = some (.ok wl, s)) (hok : ∀ s, I s → wl.ok s) (h : ∀ d ∈ wl.ds, ∀ ρ s, E ρ → I s → Ends (bnd (g d ρ) b s) (PNx E I)) (he : E ρ) (hi : I s) : Ends (dFor wi g b ρ s) (PNx E I) := by
  obtain ⟨ρ', s', e', i', h'⟩ := forW_inv (b := fun d ρ => bnd (g d ρ) b) hok (fun d hd ρ s e i => by
    obtain ⟨r, e1, ρ', s', rfl, e2, i2⟩ := h d hd ρ s e i
    exact ⟨ρ', s', e2, i2, e1⟩) he hi
  refine ⟨_, ?_, ρ', s', rfl, e', i'⟩
  unfold dFor
  rw [k_bnd_ok hw]
  exact h'
theorem ends_set {n : Nat} {f : En → M D} {d : D} (h : f ρ s = some (.ok d, s1)) : dSet n f ρ s = some (.ok (.nx (ρ.set n (some d))), s1) := by
  rw [k_set, k_bnd_ok h]
  rfl
theorem ends_setR {n : Nat} {f : En → M D} {d : D} (h : f ρ = ret d) : dSet n f ρ s = some (.ok (.nx (ρ.set n (some d))), s) := by
  rw [k_set, h]
  rfl
theorem ends_ifsR {t : En → M Bool} {b : En → M Fl} (h : t ρ = ret false) : dIfS t b dNext ρ s = some (.ok (.nx ρ), s) := by
  rw [k_ifs, h]
  rfl
theorem ends_bndR {α β : Type} {m : M α} {g : α → M β} {a : α} {P : Except D β × S → Prop} (h : m = ret a) (k : Ends (g a s) P) : Ends (bnd m g s) P := ends_bnd (congrFun h s) k
theorem ends_ifs {t : En → M Bool} {b c : En → M Fl} (h : t ρ s = some (.ok false, s)) (hc : c ρ s = some (.ok (.nx ρ), s)) : dIfS t b c ρ s = some (.ok (.nx ρ), s) := by
  rw [k_ifs, k_bnd_ok h]
  exact hc
end
/-! rows of ints -/
theorem toPyL_ints : ∀ l : List Int, toPyL (l.map .int) = some (l.map PyData.int)
  | [] => rfl
  | i :: l => by
    rw [List.map_cons, toPyL, toPy, toPyL_ints l]
    rfl
theorem lay_ints : ∀ l : List Int, PyData.canLayAll0 (l.map PyData.int) = true
  | [] => rfl
  | i :: l => by
    rw [List.map_cons, PyData.canLayAll0, lay_ints l]
    rfl
theorem depth_ints : ∀ l : List Int, PyData.depthAll (l.map PyData.int) ≤ 1
  | [] => by decide
  | i :: l => by
    have := depth_ints l
    rw [List.map_cons, PyData.depthAll]
    simp [PyData.depth]
    omega
theorem ne_ints_nil (l : List Int) : oNe (.lst (l.map .int)) (.lst []) = ret (.bl (!l.isEmpty)) := by
  have e1 : toPy (.lst (l.map .int)) = some (.list (l.map .int)) := by
    rw [toPy, toPyL_ints]
    rfl
  have e2 : toPy (.lst []) = some (.list []) := by
    rw [toPy, toPyL]
    rfl
  have hs : SeqAt.shaped (.list (l.map PyData.int)) = true := by
    have := depth_ints l
    simp [SeqAt.shaped, PyData.canLay0, lay_ints, PyData.depth]
    omega
  unfold oNe eqB
  rw [e1, e2]
  dsimp only
  rw [if_pos ⟨hs, by decide⟩]
  cases l <;> simp [PyData.eqv, PyData.eqvAll]
end DS
/-! DSJ: the join: what the head has observed, as the layer wants it -/
namespace DS
open PySem L2 PySem.Spec PyProof.Rows
theorem walk_ofGE {l : PySem.W.OpenLaw} {n k : Nat} {q : Program} {loose : List Str} {XP : (Str → Option Value) → Heap → Prop} {YP : World → Heap → Prop} {d : DefRec} {x : Str}
    (hn : l.most = some n) (hn2 : n ≤ sizeLine) (hdf : d.params.defaults = []) (hr : RoomG k callerA)
    (F : ∀ (w : World) (mg : Str → Option Value) (fa : Addr) (h : Heap), YP w h → h.Ns mainGlobals mg → mg d.name = some (.ref fa) →
      ∃ (K : PySem.W.Frag) (fd : FuncData) (sp : Sp), K.In h ∧ (∀ (s : Shared) (u : Value), BindsTo s fd ⟨[u], []⟩ [(x, u)]) ∧
        (∀ base : Heap, K.In base → base.Ns mainGlobals mg → FnG l.prog w K mg base L2.CX0 k fa fd [x] sp) ∧
          ∀ (H : Hp) (a : Addr) (ns : List Int), ns.length ≤ n → Only H → SqL K H a (ns.map V.int) → sp [.ref a] H (fun v _ => v = .bl true) fun _ _ _ => False) :
    PySem.W.WalkO q loose XP YP l.row.toRowW d [] (fun f vs => PySem.call f vs) := by
  refine Att.attach_call hn hdf fun w s₀ s₁ mg mb fa o pm cd doc a vs ns G Y ho hd hcd hmg hobj hints hlen hg => ?_
  obtain ⟨K, fd, sp, KX, hb, hF, hsp⟩ := F w mg fa _ Y G.T.g hmg
  exact law_callG KX G.T.g G.T.b G.T.builtins G.T.nolimit hg hobj hints (Nat.le_trans hlen hn2) hr hF hb (fun H hO hS => hsp H a ns hlen hO hS) fun H e s' z => z
section
variable {K : PySem.W.Frag} {mg : Str → Option Value}
theorem hasF1 {c f : Str} {C : Addr} (h : mg c = some (.ref C)) (hc : Cls K C) (hn : NoAttr K C f) : HasF K mg [c] f := ⟨fun d hd D e => by
  rw [List.mem_singleton] at hd
  subst hd
  rw [h] at e
  cases e
  exact ⟨hc, hn⟩⟩
theorem hasF2 {c c' f : Str} {C C' : Addr} (h : mg c = some (.ref C)) (hc : Cls K C) (hn : NoAttr K C f) (h' : mg c' = some (.ref C')) (hc' : Cls K C') (hn' : NoAttr K C' f) : HasF K mg [c, c'] f := ⟨fun d hd D e => by
  rcases List.mem_cons.mp hd with rfl | hd
  · rw [h] at e
    cases e
    exact ⟨hc, hn⟩
  · rw [List.mem_singleton] at hd
    subst hd
    rw [h'] at e
    cases e
    exact ⟨hc', hn'⟩⟩
/-- a call with keywords of a def without defaults -/
theorem kb_of {x qual : Str} {params : Arguments} {body : List Stmt} {scope : Scope} {f : Addr} {fd : FuncData} {ps ks : List Str} (F : FunD K x qual params body scope [] [] f fd) (n : Nat) (pl : List Nat) (hk : n + ks.length = pl.length) (hp : ps ≠ [])
    (h : ∀ (kV doc pm : Value) (an : Option Addr) (cdv ct : Value) (us ws : List Value), us.length = n → ws.length = ks.length → bindArgs (PySem.W.fnOf x qual params body scope .none kV doc pm an cdv ct) ⟨us, ks.zip ws⟩ = pure (ps.zip (gP (n, pl) us ws))) : KBinds K fd ps ks (gP (n, pl)) (gP (n, pl)) := by
  obtain ⟨oc, od, dV, kV, doc, pm, an, cdv, ct, osl, rfl, lk, hcd, hD, hK⟩ := F.ex
  rcases hD with ⟨_, rfl⟩ | ⟨e, _⟩
  · refine ⟨fun s us ws X hl => ?_, fun a b => gP_vals a b _⟩
    by_cases c : us.length = n ∧ us.length + ws.length = pl.length
    · exact .of_eq (h kV doc pm an cdv ct us ws c.1 (by omega))
    · have e : gP (n, pl) us ws = [] := if_neg c
      rw [e] at hl
      exact absurd (List.length_eq_zero_iff.mp hl.symm) hp
  · exact absurd rfl e
end
theorem fnG_stuck {P : Program} {w : World} {K : PySem.W.Frag} {mg : Str → Option Value} {base : Heap} {k n : Nat} {f : Addr} {fd : FuncData} {ps : List Str} (hn : n = ps.length) : FnG P w K mg base L2.CX0 k f fd ps (spD K mg n fun _ => stuck) :=
  ⟨fun vs H Q E h => by rw [h.1, hn], fun A outer s H args us vs Q E hr e b r h => by
    obtain ⟨_, w0, s0, xs, hs, _, _, _, _, e, _⟩ := h
    cases e⟩
theorem arity_stuck {n : Nat} : arity n fun _ => stuck := fun ds s r e => by cases e
/-! what the head observes: He's facts and one more Bool -/
def obsB (n : Nat) (fa : List He.Fa) (fn : List He.DefD) (ex : PySem.W.Frag → Bool) (g : Addr → Option Obj) : He.AlD × Bool := (He.obsD fa fn (He.frG g (He.asD g n)), ex (He.frG g (He.asD g n)))
def hookB (n : Nat) (fa : List He.Fa) (fn : List He.DefD) (ex : PySem.W.Frag → Bool) : PySem.W.Hook where
  α := He.AlD × Bool
  obs := fun s => obsB n fa fn ex s.heap.get?
  val := fun _ => (He.valD fn, true)
  says := fun _ h => ∃ K : PySem.W.Frag, K.In h ∧ He.SaysD fa fn K ∧ ex K = true
  of := fun _ _ e => ⟨_, He.frG_in, congrArg (fun z : He.AlD × Bool => z.1) e, congrArg (fun z : He.AlD × Bool => z.2) e⟩
  keeps := fun _ _ _ ⟨K, hK, c⟩ k => ⟨K, PySem.W.Frag.In.keeps hK k, c⟩
theorem obsB_eq {n : Nat} {fa : List He.Fa} {fn : List He.DefD} {ex : PySem.W.Frag → Bool} {g : Addr → Option Obj} {s : Shared} (h : ∀ a, g a = s.heap.get? a) : obsB n fa fn ex g = (hookB n fa fn ex).obs s := by
  have e : g = s.heap.get? := funext h
  rw [e] <;> rfl
end DS
/-! the mirrors (printed by gen.py) -/
namespace DS.Lw
open PySem L2 PySem.Spec PyProof.Rows
noncomputable def b_is_whole : En → M Fl := (dRet (dAnd (dUn (oIsi "int") (dVar 0)) (dNot (dUn (oIsi "bool") (dVar 0)))))
noncomputable def m_is_whole : List D → M D := frmF 1 1 (b_is_whole)
noncomputable def b_is_number : En → M Fl := (dRet (dAnd (dCall m_is_whole [] (dCons (dVar 0) dNil)) (dAnd (dBin oLe (dVar 1) (dVar 0)) (dOr (dBin oIs (dVar 2) (dC .non)) (dBin oLe (dVar 0) (dVar 2))))))
noncomputable def m_is_number : List D → M D := frmF 3 3 (b_is_number)
noncomputable def b_is_word : En → M Fl := (dRet (dCall m_is_number [] (dCons (dVar 0) (dCons (dC (.int 0)) (dCons (dBin oSub (dC (.int 256)) (dC (.int 1))) dNil)))))
noncomputable def m_is_word : List D → M D := frmF 1 1 (b_is_word)
noncomputable def b_is_tuple_of : En → M Fl := (dRet (dAnd (dUn (oIsi "tuple") (dVar 0)) (dBin oEq (dCB oLen (dCons (dVar 0) dNil)) (dVar 1))))
noncomputable def m_is_tuple_of : List D → M D := frmF 2 2 (b_is_tuple_of)
noncomputable def b_is_short_tuple : En → M Fl := (dRet (dAnd (dUn (oIsi "tuple") (dVar 0)) (dChn oLe oLe (dVar 1) (dCB oLen (dCons (dVar 0) dNil)) (dVar 2))))
noncomputable def m_is_short_tuple : List D → M D := frmF 3 3 (b_is_short_tuple)
noncomputable def b_is_one_of : En → M Fl := (dRet (dAnd (dUn (oIsi "str") (dVar 0)) (dBin (oInG false) (dVar 0) (dVar 1))))
noncomputable def m_is_one_of : List D → M D := frmF 2 2 (b_is_one_of)
noncomputable def b_is_headed : En → M Fl := (dRet (dAnd (dUn (oIsi "tuple") (dVar 0)) (dAnd (dBin oGt (dCB oLen (dCons (dVar 0) dNil)) (dC (.int 0))) (dUn (oIsi "str") (dBin oIxG (dVar 0) (dC (.int 0)))))))
noncomputable def m_is_headed : List D → M D := frmF 1 1 (b_is_headed)
noncomputable def b_check_reach : En → M Fl := (dIfS (tNotD (dTst (dCall m_is_number [] (dCons (dVar 0) (dCons (dC (.int 0)) (dCons (dC (.int 9)) dNil)))))) dStuck dNext)
noncomputable def m_check_reach : List D → M D := frmF 1 1 (b_check_reach)
noncomputable def b_bodies_of : En → M Fl := (dRet (dIf (dTst (dBin (oInG false) (dBin oIxG (dVar 0) (dC (.int 0))) (dTup (dCons (dC (.str "times")) (dCons (dC (.str "loop")) dNil))))) (dSl (dVar 0) (dPart (dC (.int 1))) (dPart (dC (.int 2)))) (dTup dNil)))
noncomputable def m_bodies_of : List D → M D := frmF 1 1 (b_bodies_of)
noncomputable def b_size_of (self : List D → M D) : En → M Fl := (dRet (dCB oSum (dCons (dComp (.lst []) (dItS (dVar 0)) (gdName 2) tTrue [2] (emL (dBin oAdd (dC (.int 1)) (dCB oSum (dCons (dComp (.lst []) (dItS (dCall m_bodies_of [] (dCons (dVar 2) dNil))) (gdName 1) tTrue [1] (emL (dCall self [] (dCons (dVar 1) dNil)))) dNil))))) dNil)))
noncomputable def m_size_of : Nat → List D → M D
  | 0 => fun _ => stuck
  | n + 1 => frmF 1 3 (b_size_of (m_size_of n))
noncomputable def b_items_of (self : List D → M D) : En → M Fl := (dSeq (dSet 1 (dLstM dNil))
    (dSeq (dFor (dItS (dVar 0)) (gdName 2) (dSeq (dExp (dBM "list" mAppend (dVar 1) (dCons (dVar 2) dNil)))
    (dFor (dItS (dCall m_bodies_of [] (dCons (dVar 2) dNil))) (gdName 3) (dExp (dBM "list" mExtend (dVar 1) (dCons (dCall self [] (dCons (dVar 3) dNil)) dNil))))))
    (dRet (dVar 1))))
noncomputable def m_items_of : Nat → List D → M D
  | 0 => fun _ => stuck
  | n + 1 => frmF 1 4 (b_items_of (m_items_of n))
noncomputable def b_BareLoop_init : En → M Fl := (dSeq (dFldS ["BareLoop"] "at_place" (dVar 0) (dVar 1))
    (dSeq (dFldS ["BareLoop"] "own_inner" (dVar 0) (dVar 2))
    (dFldS ["BareLoop", "Links"] "references" (dVar 0) (dCB oTuple (dCons (dComp (.lst []) (dItS (dVar 2)) (gdName 3) (dTst (dBin (oInG false) (dBin oIxG (dVar 3) (dC (.int 0))) (dC (.gtp [.str "take", .str "more", .str "less", .str "lay"])))) [3] (emL (dSl (dVar 3) (dPart (dC (.int 1))) dNoPart))) dNil)))))
noncomputable def m_BareLoop_init : List D → M D := frmK 3 4 (b_BareLoop_init)
noncomputable def b_loops_of : En → M Fl := (dSeq (dSet 1 (dCall (m_items_of 12) [] (dCons (dVar 0) dNil)))
    (dRet (dComp (.lst []) (dItE (dVar 1)) (gdSeq 2 (gdCons (gdName 2) (gdCons (gdName 3) gdNil))) (dTst (dBin oEq (dBin oIxG (dVar 3) (dC (.int 0))) (dC (.str "loop")))) [2, 3] (emL (dMake (makeF "BareLoop") m_BareLoop_init [] (dCons (dVar 2) (dCons (dBin oIxG (dVar 3) (dC (.int 1))) dNil)))))))
noncomputable def m_loops_of : List D → M D := frmF 1 4 (b_loops_of)
noncomputable def b_references_of : En → M Fl := (dRet (dUn (oFld ["BareLoop", "Links"] "references") (dBin oIxG (dCall m_loops_of [] (dCons (dBin oIxG (dVar 0) (dC (.int 2))) dNil)) (dVar 1))))
noncomputable def m_references_of : List D → M D := frmF 2 2 (b_references_of)
noncomputable def b_is_plain_item : En → M Fl := (dSeq (dIfS (tOrD (tNotD (dTst (dCall m_is_tuple_of [] (dCons (dVar 0) (dCons (dC (.int 2)) dNil))))) (tNotD (dTst (dCall m_is_headed [] (dCons (dVar 0) dNil))))) (dRet (dC (.bl false))) dNext)
    (dSeq (dAsg (dVar 0) (gdSeq 2 (gdCons (gdName 2) (gdCons (gdName 3) gdNil))))
    (dSeq (dIfS (dTst (dBin oEq (dVar 2) (dC (.str "word")))) (dRet (dCall m_is_word [] (dCons (dVar 3) dNil))) dNext)
    (dSeq (dIfS (dTst (dCall m_is_one_of [] (dCons (dVar 2) (dCons (dC (.gtp [.str "name", .str "keep", .str "plus", .str "minus"])) dNil)))) (dRet (dCall m_is_number [] (dCons (dVar 3) (dCons (dC (.int 0)) (dCons (dBin oSub (dVar 1) (dC (.int 1))) dNil))))) dNext)
    (dRet (dAnd (dCall m_is_one_of [] (dCons (dVar 2) (dCons (dC (.gtp [.str "read", .str "write"])) dNil))) (dCall m_is_number [] (dCons (dVar 3) (dCons (dC (.int 0)) (dCons (dC (.int 0)) dNil))))))))))
noncomputable def m_is_plain_item : List D → M D := frmF 2 4 (b_is_plain_item)
noncomputable def b_is_reference : En → M Fl := (dSeq (dIfS (tOrD (tNotD (dTst (dCall m_is_tuple_of [] (dCons (dVar 0) (dCons (dC (.int 4)) dNil))))) (tOrD (tNotD (dTst (dCall m_is_headed [] (dCons (dVar 0) dNil)))) (tNotD (dTst (dCall m_is_one_of [] (dCons (dBin oIxG (dVar 0) (dC (.int 0))) (dCons (dC (.gtp [.str "take", .str "more", .str "less", .str "lay"])) dNil))))))) (dRet (dC (.bl false))) dNext)
    (dSeq (dAsg (dVar 0) (gdSeq 4 (gdCons (gdName 2) (gdCons (gdName 3) (gdCons (gdName 4) (gdCons (gdName 5) gdNil))))))
    (dSeq (dIfS (tOrD (tNotD (dTst (dCall m_is_number [] (dCons (dVar 3) (dCons (dC (.int 0)) (dCons (dBin oSub (dVar 1) (dC (.int 1))) dNil)))))) (tNotD (dTst (dCall m_is_number [] (dCons (dVar 4) (dCons (dUn oNeg (dC (.int 9))) (dCons (dC (.int 9)) dNil))))))) (dRet (dC (.bl false))) dNext)
    (dRet (dCall m_is_number [] (dCons (dVar 5) (dCons (dUn oNeg (dC (.int 99))) (dCons (dC (.int 99)) dNil))))))))
noncomputable def m_is_reference : List D → M D := frmF 2 6 (b_is_reference)
noncomputable def b_is_inner : En → M Fl := (dSeq (dIfS (tOrD (tNotD (dTst (dUn (oIsi "tuple") (dVar 0)))) (dTst (dBin oEq (dVar 0) (dTup dNil)))) (dRet (dC (.bl false))) dNext)
    (dRet (dCB oAll (dCons (dComp (.lst []) (dItS (dVar 0)) (gdName 3) tTrue [3] (emL (dOr (dCall m_is_plain_item [] (dCons (dVar 3) (dCons (dVar 1) dNil))) (dCall m_is_reference [] (dCons (dVar 3) (dCons (dVar 2) dNil)))))) dNil))))
noncomputable def m_is_inner : List D → M D := frmF 3 4 (b_is_inner)
noncomputable def b_is_item (self : List D → M D) : En → M Fl := (dSeq (dIfS (tAndD (dTst (dCall m_is_tuple_of [] (dCons (dVar 0) (dCons (dC (.int 2)) dNil)))) (tAndD (dTst (dCall m_is_headed [] (dCons (dVar 0) dNil))) (dTst (dBin oEq (dBin oIxG (dVar 0) (dC (.int 0))) (dC (.str "times")))))) (dRet (dCall self [] (dCons (dBin oIxG (dVar 0) (dC (.int 1))) (dCons (dVar 1) (dCons (dVar 2) (dCons (dVar 3) dNil)))))) dNext)
    (dSeq (dIfS (tAndD (dTst (dCall m_is_tuple_of [] (dCons (dVar 0) (dCons (dC (.int 2)) dNil)))) (tAndD (dTst (dCall m_is_headed [] (dCons (dVar 0) dNil))) (dTst (dBin oEq (dBin oIxG (dVar 0) (dC (.int 0))) (dC (.str "loop")))))) (dRet (dCall m_is_inner [] (dCons (dBin oIxG (dVar 0) (dC (.int 1))) (dCons (dVar 1) (dCons (dVar 2) dNil))))) dNext)
    (dRet (dCall m_is_plain_item [] (dCons (dVar 0) (dCons (dVar 1) dNil))))))
noncomputable def m_is_item (self : List D → M D) : List D → M D := frmF 4 4 (b_is_item self)
noncomputable def b_is_body (self : List D → M D) : En → M Fl := (dSeq (dIfS (tOrD (dTst (dBin oLe (dVar 3) (dC (.int 0)))) (tNotD (dTst (dUn (oIsi "tuple") (dVar 0))))) (dRet (dC (.bl false))) dNext)
    (dRet (dCB oAll (dCons (dComp (.lst []) (dItS (dVar 0)) (gdName 4) tTrue [4] (emL (dCall (m_is_item self) [] (dCons (dVar 4) (dCons (dVar 1) (dCons (dVar 2) (dCons (dBin oSub (dVar 3) (dC (.int 1))) dNil))))))) dNil))))
noncomputable def m_is_body : Nat → List D → M D
  | 0 => fun _ => stuck
  | n + 1 => frmF 4 5 (b_is_body (m_is_body n))
noncomputable def b_are_lengths : En → M Fl := (dSeq (dIfS (tNotD (dTst (dCall m_is_short_tuple [] (dCons (dVar 0) (dCons (dC (.int 0)) (dCons (dC (.int 6)) dNil)))))) (dRet (dC (.bl false))) dNext)
    (dRet (dCB oAll (dCons (dComp (.lst []) (dItS (dVar 0)) (gdName 1) tTrue [1] (emL (dCall m_is_number [] (dCons (dVar 1) (dCons (dC (.int 1)) (dCons (dC (.int 200)) dNil)))))) dNil))))
noncomputable def m_are_lengths : List D → M D := frmF 1 2 (b_are_lengths)
noncomputable def b_is_bare_form : En → M Fl := (dSeq (dIfS (tOrD (tNotD (dTst (dCall m_is_tuple_of [] (dCons (dVar 0) (dCons (dC (.int 3)) dNil))))) (tOrD (tNotD (dTst (dCall m_is_number [] (dCons (dBin oIxG (dVar 0) (dC (.int 0))) (dCons (dC (.int 0)) (dCons (dC (.int 20)) dNil)))))) (tNotD (dTst (dCall m_are_lengths [] (dCons (dBin oIxG (dVar 0) (dC (.int 1))) dNil)))))) (dRet (dC (.bl false))) dNext)
    (dSeq (dIfS (tNotD (dTst (dCall (m_is_body 12) [] (dCons (dBin oIxG (dVar 0) (dC (.int 2))) (dCons (dBin oIxG (dVar 0) (dC (.int 0))) (dCons (dCB oLen (dCons (dBin oIxG (dVar 0) (dC (.int 1))) dNil)) (dCons (dC (.int 4)) dNil))))))) (dRet (dC (.bl false))) dNext)
    (dSeq (dSet 1 (dCall m_loops_of [] (dCons (dBin oIxG (dVar 0) (dC (.int 2))) dNil)))
    (dSeq (dIfS (tOrD (dTst (dBin oGt (dCall (m_size_of 12) [] (dCons (dBin oIxG (dVar 0) (dC (.int 2))) dNil)) (dC (.int 600)))) (dTst (dBin oGt (dCB oLen (dCons (dVar 1) dNil)) (dC (.int 10))))) (dRet (dC (.bl false))) dNext)
    (dRet (dCB oAll (dCons (dComp (.lst []) (dItS (dVar 1)) (gdName 2) tTrue [2] (emL (dBin oLe (dCB oLen (dCons (dUn (oFld ["BareLoop", "Links"] "references") (dVar 2)) dNil)) (dC (.int 40))))) dNil)))))))
noncomputable def m_is_bare_form : List D → M D := frmF 1 3 (b_is_bare_form)
noncomputable def b_check_bare : En → M Fl := (dIfS (tNotD (dTst (dCall m_is_bare_form [] (dCons (dVar 0) dNil)))) dStuck dNext)
noncomputable def m_check_bare : List D → M D := frmF 1 1 (b_check_bare)
noncomputable def b_check_loop : En → M Fl := (dIfS (tNotD (dTst (dCall m_is_number [] (dCons (dVar 1) (dCons (dC (.int 0)) (dCons (dBin oSub (dCB oLen (dCons (dCall m_loops_of [] (dCons (dBin oIxG (dVar 0) (dC (.int 2))) dNil)) dNil)) (dC (.int 1))) dNil)))))) dStuck dNext)
noncomputable def m_check_loop : List D → M D := frmF 2 2 (b_check_loop)
noncomputable def b_is_pair : En → M Fl := (dRet (dAnd (dCall m_is_tuple_of [] (dCons (dVar 0) (dCons (dC (.int 2)) dNil))) (dCB oAll (dCons (dComp (.lst []) (dItS (dVar 0)) (gdName 1) tTrue [1] (emL (dCall m_is_whole [] (dCons (dVar 1) dNil)))) dNil))))
noncomputable def m_is_pair : List D → M D := frmF 1 2 (b_is_pair)
noncomputable def b_is_link : En → M Fl := (dRet (dAnd (dCall m_is_pair [] (dCons (dVar 1) dNil)) (dBin (oInG false) (dVar 1) (dUn (oFld ["Links"] "least") (dVar 0)))))
noncomputable def m_is_link : List D → M D := frmF 2 2 (b_is_link)
noncomputable def b_way_between : En → M Fl := (dRet (dBin oSub (dBin oAdd (dBin oMul (dBin oIxG (dVar 0) (dC (.int 1))) (dVar 2)) (dBin oIxG (dVar 1) (dC (.int 2)))) (dBin oIxG (dVar 0) (dC (.int 2)))))
noncomputable def m_way_between : List D → M D := frmF 3 3 (b_way_between)
noncomputable def b_is_near : En → M Fl := (dRet (dChn oLe oLe (dUn oNeg (dVar 3)) (dCall m_way_between [] (dCons (dVar 0) (dCons (dVar 1) (dCons (dVar 2) dNil)))) (dVar 3)))
noncomputable def m_is_near : List D → M D := frmF 4 4 (b_is_near)
noncomputable def b_free_winding : En → M Fl := (dSeq (dFor (dRng2 (dVar 2) (dBin oAdd (dC (.int 207)) (dC (.int 1)))) (gdName 4) (dIfS (dTst (dCall m_is_near [] (dCons (dVar 0) (dCons (dVar 1) (dCons (dVar 4) (dCons (dVar 3) dNil)))))) (dRet (dVar 4)) dNext))
    (dRet (dC .non)))
noncomputable def m_free_winding : List D → M D := frmF 4 5 (b_free_winding)
noncomputable def b_Links_classes_found : En → M Fl := (dSeq (dSet 1 dNewT)
    (dSeq (dFor (dItE (dUn (oFld ["BareLoop", "Links"] "references") (dVar 0))) (gdSeq 2 (gdCons (gdName 2) (gdCons (gdSeq 3 (gdCons (gdName 3) (gdCons (gdName 4) (gdCons (gdName 5) gdNil)))) gdNil))) (dExp (dBM "list" mAppend (dBM "dict" mSetdef (dVar 1) (dCons (dTup (dCons (dVar 3) (dCons (dVar 4) dNil))) (dCons (dLstM dNil) dNil))) (dCons (dVar 2) dNil))))
    (dRet (dCB oSorted (dCons (dLock 1 (dComp (.lst []) (dItV (dVar 1)) (gdName 6) tTrue [6] (emL (dCB oTuple (dCons (dVar 6) dNil))))) dNil)))))
noncomputable def m_Links_classes_found : List D → M D := frmF 1 7 (b_Links_classes_found)
noncomputable def b_Links_init : En → M Fl := (dSeq (dFldS ["BareLoop", "Links"] "references" (dVar 0) (dCall m_references_of [] (dCons (dVar 1) (dCons (dVar 2) dNil))))
    (dSeq (dFldS ["Links"] "own_reach" (dVar 0) (dVar 3))
    (dSeq (dFldS ["Links"] "classes" (dVar 0) (dMeth ["Links"] "classes_found" m_Links_classes_found [] (dVar 0) dNil))
    (dSeq (dFldS ["Links"] "all_links" (dVar 0) (dCB oSorted (dCons (dComp (.lst []) (dItS (dUn (oFld ["Links"] "classes") (dVar 0))) (gdName 4) tTrue [4, 5, 6] (cCl (dItS (dVar 4)) (gdName 5) tTrue [5, 6] (cCl (dItS (dVar 4)) (gdName 6) tTrue [6] (emL (dTup (dCons (dVar 5) (dCons (dVar 6) dNil))))))) dNil)))
    (dSeq (dFldS ["Links"] "least" (dVar 0) (dComp (.dT [] []) (dItS (dUn (oFld ["Links"] "all_links") (dVar 0))) (gdSeq 2 (gdCons (gdName 5) (gdCons (gdName 6) gdNil))) tTrue [5, 6] (emD (dTup (dCons (dVar 5) (dCons (dVar 6) dNil))) (dIf (dTst (dBin oGt (dVar 6) (dVar 5))) (dC (.int 0)) (dC (.int 1))))))
    (dSeq (dFldS ["Links"] "free" (dVar 0) dNewT)
    (dFor (dItS (dUn (oFld ["Links"] "all_links") (dVar 0))) (gdName 7) (dSeq (dAsg (dComp (.lst []) (dItS (dVar 7)) (gdName 8) tTrue [8] (emL (dBin oIxG (dUn (oFld ["BareLoop", "Links"] "references") (dVar 0)) (dVar 8)))) (gdSeq 2 (gdCons (gdName 5) (gdCons (gdName 6) gdNil))))
    (dAsg (dCall m_free_winding [] (dCons (dVar 5) (dCons (dVar 6) (dCons (dBin oIxG (dUn (oFld ["Links"] "least") (dVar 0)) (dVar 7)) (dCons (dVar 3) dNil))))) (gdSub (dUn (oFld ["Links"] "free") (dVar 0)) (dVar 7) stG))))))))))
noncomputable def m_Links_init : List D → M D := frmK 4 9 (b_Links_init)
noncomputable def b_Links_way : En → M Fl := (dSeq (dAsg (dComp (.lst []) (dItS (dVar 1)) (gdName 5) tTrue [5] (emL (dBin oIxG (dUn (oFld ["BareLoop", "Links"] "references") (dVar 0)) (dVar 5)))) (gdSeq 2 (gdCons (gdName 3) (gdCons (gdName 4) gdNil))))
    (dRet (dCall m_way_between [] (dCons (dVar 3) (dCons (dVar 4) (dCons (dVar 2) dNil))))))
noncomputable def m_Links_way : List D → M D := frmF 3 6 (b_Links_way)
noncomputable def b_Links_told : En → M Fl := (dRet (dCB oTuple (dCons (dComp (.lst []) (dItS (dUn (oFld ["Links"] "all_links") (dVar 0))) (gdName 1) tTrue [1] (emL (dTup (dStar (dVar 1) (dCons (dBin oIxG (dUn (oFld ["Links"] "least") (dVar 0)) (dVar 1)) (dCons (dBin oIxG (dUn (oFld ["Links"] "free") (dVar 0)) (dVar 1)) dNil)))))) dNil)))
noncomputable def m_Links_told : List D → M D := frmF 1 2 (b_Links_told)
noncomputable def b_check_link : En → M Fl := (dIfS (tNotD (dTst (dCall m_is_link [] (dCons (dVar 0) (dCons (dVar 1) dNil))))) dStuck dNext)
noncomputable def m_check_link : List D → M D := frmF 2 2 (b_check_link)
noncomputable def b_classes : En → M Fl := (dSeq (dExp (dCall m_check_bare [] (dCons (dVar 0) dNil)))
    (dSeq (dExp (dCall m_check_loop [] (dCons (dVar 0) (dCons (dVar 1) dNil))))
    (dRet (dCB oTuple (dCons (dUn (oFld ["Links"] "classes") (dMake (makeF "Links") m_Links_init [] (dCons (dVar 0) (dCons (dVar 1) (dCons (dC (.int 0)) dNil))))) dNil)))))
noncomputable def m_classes : List D → M D := frmF 2 2 (b_classes)
noncomputable def b_links : En → M Fl := (dSeq (dExp (dCall m_check_bare [] (dCons (dVar 0) dNil)))
    (dSeq (dExp (dCall m_check_loop [] (dCons (dVar 0) (dCons (dVar 1) dNil))))
    (dSeq (dExp (dCall m_check_reach [] (dCons (dVar 2) dNil)))
    (dRet (dMeth ["Links"] "told" m_Links_told [] (dMake (makeF "Links") m_Links_init [] (dCons (dVar 0) (dCons (dVar 1) (dCons (dVar 2) dNil)))) dNil)))))
noncomputable def m_links : List D → M D := frmF 3 3 (b_links)
noncomputable def b_walk_by : En → M Fl := (dSeq (dExp (dCall m_check_bare [] (dCons (dVar 0) dNil)))
    (dSeq (dExp (dCall m_check_loop [] (dCons (dVar 0) (dCons (dVar 1) dNil))))
    (dSeq (dSet 4 (dMake (makeF "Links") m_Links_init [] (dCons (dVar 0) (dCons (dVar 1) (dCons (dC (.int 0)) dNil)))))
    (dSeq (dExp (dCall m_check_link [] (dCons (dVar 4) (dCons (dVar 2) dNil))))
    (dSeq (dIfS (tNotD (dTst (dCall m_is_number [] (dCons (dVar 3) (dCons (dBin oIxG (dUn (oFld ["Links"] "least") (dVar 4)) (dVar 2)) (dCons (dC (.int 1000)) dNil)))))) dStuck dNext)
    (dRet (dMeth ["Links"] "way" m_Links_way [] (dVar 4) (dCons (dVar 2) (dCons (dVar 3) dNil)))))))))
noncomputable def m_walk_by : List D → M D := frmF 4 5 (b_walk_by)
noncomputable def b_references : En → M Fl := (dSeq (dExp (dCall m_check_bare [] (dCons (dVar 0) dNil)))
    (dSeq (dExp (dCall m_check_loop [] (dCons (dVar 0) (dCons (dVar 1) dNil))))
    (dRet (dCall m_references_of [] (dCons (dVar 0) (dCons (dVar 1) dNil))))))
noncomputable def m_references : List D → M D := frmF 2 2 (b_references)
noncomputable def b__law_pail : En → M Fl := (dSeq (dSet 2 (dBin oAdd (dC (.int 9928377)) (dBin oMul (dC (.int 19175)) (dVar 1))))
    (dSeq (dFor (dItS (dSl (dVar 0) dNoPart (dPart (dC (.int 12))))) (gdName 3) (dSet 2 (dBin oMod (dCB oInt (dCons (dBin oAdd (dBin oAdd (dBin oMul (dVar 2) (dC (.int 65071))) (dBin oMul (dBin oMod (dCB oInt (dCons (dVar 3) dNil)) (dC (.int 2147483423))) (dC (.int 17)))) (dC (.int 5))) dNil)) (dC (.int 2147483423)))))
    (dSeq (dSet 4 (dIf (dTst (dBin oLt (dVar 1) (dCB oLen (dCons (dVar 0) dNil)))) (dCB oInt (dCons (dBin oIxG (dVar 0) (dVar 1)) dNil)) (dC (.int 0))))
    (dSeq (dSet 2 (dBin oMod (dCB oInt (dCons (dBin oAdd (dBin oAdd (dBin oMul (dVar 2) (dC (.int 61))) (dBin oMul (dBin oMod (dCB oInt (dCons (dVar 4) dNil)) (dC (.int 2147483423))) (dC (.int 30011)))) (dC (.int 7))) dNil)) (dC (.int 2147483423))))
    (dRet (dLstM (dCons (dIf (tOrD (dTst (dBin oLt (dVar 4) (dC (.int 0)))) (dTst (dBin oGe (dVar 4) (dBin oPow (dC (.int 10)) (dC (.int 15)))))) (dCB oAbs (dCons (dVar 4) dNil)) (dC (.int 0))) (dCons (dVar 2) (dCons (dC (.int 0)) dNil)))))))))
noncomputable def m__law_pail : List D → M D := frmK 2 5 (b__law_pail)
noncomputable def b__law_deal : En → M Fl := (dSeq (dIfS (dTst (dBin oGt (dBin oIxG (dVar 0) (dC (.int 0))) (dC (.int 0)))) (dSeq (dAsg (dCB oDivmod (dCons (dBin oIxG (dVar 0) (dC (.int 0))) (dCons (dVar 1) dNil))) (gdSeq 2 (gdCons (gdSub (dVar 0) (dC (.int 0)) stG) (gdCons (gdName 2) gdNil))))
    (dRet (dVar 2))) dNext)
    (dSeq (dAsg (dBin oAdd (dBin oIxG (dVar 0) (dC (.int 2))) (dC (.int 1))) (gdSub (dVar 0) (dC (.int 2)) stG))
    (dSeq (dSet 3 (dBin oMod (dCB oInt (dCons (dBin oAdd (dBin oMul (dBin oIxG (dVar 0) (dC (.int 1))) (dC (.int 15511))) (dBin oMul (dC (.int 11903)) (dBin oIxG (dVar 0) (dC (.int 2))))) dNil)) (dC (.int 2147483423))))
    (dSeq (dAsg (dBin oMod (dCB oInt (dCons (dBin oAdd (dBin oMul (dVar 3) (dBin oAdd (dBin oMod (dCB oInt (dCons (dVar 3) dNil)) (dC (.int 5147))) (dC (.int 30011)))) (dBin oMul (dC (.int 31)) (dBin oIxG (dVar 0) (dC (.int 2))))) dNil)) (dC (.int 2147483423))) (gdSub (dVar 0) (dC (.int 1)) stG))
    (dRet (dBin oMod (dCB oInt (dCons (dBin oFdv (dBin oIxG (dVar 0) (dC (.int 1))) (dC (.int 349))) dNil)) (dVar 1)))))))
noncomputable def m__law_deal : List D → M D := frmF 2 4 (b__law_deal)
noncomputable def b__law_any : En → M Fl := (dRet (dBin oIxG (dVar 1) (dCall m__law_deal [] (dCons (dVar 0) (dCons (dCB oLen (dCons (dVar 1) dNil)) dNil)))))
noncomputable def m__law_any : List D → M D := frmF 2 2 (b__law_any)
noncomputable def b__law_bare_with : En → M Fl := (dSeq (dSet 2 (dTup dNil))
    (dSeq (dFor (dItS (dVar 0)) (gdName 3) (dSeq (dSet 4 (dTup dNil))
    (dSeq (dFor (dItE (dVar 3)) (gdSeq 2 (gdCons (gdName 5) (gdCons (gdName 6) gdNil))) (dSet 4 (dBin oAdd (dVar 4) (dTup (dCons (dBin oAdd (dTup (dCons (dBin oIxG (dTup (dCons (dC (.str "take")) (dCons (dC (.str "more")) (dCons (dC (.str "less")) (dCons (dC (.str "lay")) dNil))))) (dBin oMod (dCB oInt (dCons (dVar 5) dNil)) (dC (.int 4)))) dNil)) (dCB oTuple (dCons (dVar 6) dNil))) dNil)))))
    (dSet 2 (dBin oAdd (dVar 2) (dTup (dCons (dTup (dCons (dC (.str "word")) (dCons (dVar 1) dNil))) (dCons (dTup (dCons (dC (.str "loop")) (dCons (dIf (dTst (dBin oNe (dVar 4) (dTup dNil))) (dVar 4) (dTup (dCons (dTup (dCons (dC (.str "word")) (dCons (dC (.int 7)) dNil))) dNil))) dNil))) dNil))))))))
    (dRet (dTup (dCons (dC (.int 1)) (dCons (dTup (dCons (dC (.int 30)) (dCons (dC (.int 30)) dNil))) (dCons (dVar 2) dNil)))))))
noncomputable def m__law_bare_with : List D → M D := frmF 2 7 (b__law_bare_with)
noncomputable def b__law_same : En → M Fl := (dRet (dBin oEq (dCB oRepr (dCons (dVar 0) dNil)) (dCB oRepr (dCons (dVar 1) dNil))))
noncomputable def m__law_same : List D → M D := frmF 2 2 (b__law_same)
noncomputable def b__law_free_by : En → M Fl := (dSeq (dIfS (dTst (dBin oEq (dVar 0) (dC (.int 0)))) (dRet (dIf (dTst (dChn oLe oLe (dUn oNeg (dVar 3)) (dVar 1) (dVar 3))) (dVar 2) (dC .non))) dNext)
    (dSeq (dPar 4 1 (dCons (dCB oAbs (dCons (dVar 0) dNil)) (dCons (dIf (dTst (dBin oGt (dVar 0) (dC (.int 0)))) (dVar 1) (dUn oNeg (dVar 1))) dNil)))
    (dSeq (dSet 5 (dCB oMax2 (dCons (dVar 2) (dCons (dUn oNeg (dBin oFdv (dBin oAdd (dVar 1) (dVar 3)) (dVar 4))) dNil))))
    (dRet (dIf (dTst (dBin oLe (dBin oAdd (dBin oMul (dVar 4) (dVar 5)) (dVar 1)) (dVar 3))) (dVar 5) (dC .non))))))
noncomputable def m__law_free_by : List D → M D := frmF 4 6 (b__law_free_by)
noncomputable def b__law_pair_right : En → M Fl := (dSeq (dSet 5 (dLst (dCons (dTup (dCons (dC (.int 0)) (dCons (dVar 1) (dCons (dVar 2) dNil)))) (dCons (dTup (dCons (dC (.int 0)) (dCons (dVar 1) (dCons (dVar 3) dNil)))) dNil))))
    (dSeq (dSet 6 (dCall m__law_bare_with [] (dCons (dLst (dCons (dVar 5) dNil)) (dCons (dC (.int 2)) dNil))))
    (dSeq (dIfS (tOrD (dTst (dBin oNe (dCallK m_references (1, [0, 1]) (dCons (dVar 6) dNil) (dCons (dC (.int 0)) dNil)) (dCB oTuple (dCons (dVar 5) dNil)))) (dTst (dBin oNe (dCallK m_classes (1, [0, 1]) (dCons (dVar 6) dNil) (dCons (dC (.int 0)) dNil)) (dTup (dCons (dTup (dCons (dC (.int 0)) (dCons (dC (.int 1)) dNil))) dNil))))) (dRet (dC (.bl false))) dNext)
    (dSeq (dSet 7 (dCallK m_links (2, [0, 1, 2]) (dCons (dVar 6) (dCons (dC (.int 0)) dNil)) (dCons (dVar 4) dNil)))
    (dSeq (dSet 8 (dLstM dNil))
    (dSeq (dFor (dItS (dTup (dCons (dC (.int 0)) (dCons (dC (.int 1)) dNil)))) (gdName 9) (dFor (dItS (dTup (dCons (dC (.int 0)) (dCons (dC (.int 1)) dNil)))) (gdName 10) (dSeq (dAsg (dTup (dCons (dBin oSub (dBin oIxG (dBin oIxG (dVar 5) (dVar 10)) (dC (.int 2))) (dBin oIxG (dBin oIxG (dVar 5) (dVar 9)) (dC (.int 2)))) (dCons (dIf (dTst (dBin oGt (dVar 10) (dVar 9))) (dC (.int 0)) (dC (.int 1))) dNil))) (gdSeq 2 (gdCons (gdName 11) (gdCons (gdName 12) gdNil))))
    (dExp (dBM "list" mAppend (dVar 8) (dCons (dTup (dCons (dVar 9) (dCons (dVar 10) (dCons (dVar 12) (dCons (dCall m__law_free_by [] (dCons (dVar 1) (dCons (dVar 11) (dCons (dVar 12) (dCons (dVar 4) dNil))))) dNil))))) dNil))))))
    (dSeq (dIfS (tNotD (dTst (dCall m__law_same [] (dCons (dLst (dCons (dVar 7) (dCons (dCallK m_links (0, [2, 1, 0]) dNil (dCons (dVar 4) (dCons (dC (.int 0)) (dCons (dVar 6) dNil)))) dNil))) (dCons (dLst (dCons (dCB oTuple (dCons (dVar 8) dNil)) (dCons (dCB oTuple (dCons (dVar 8) dNil)) dNil))) dNil))))) (dRet (dC (.bl false))) dNext)
    (dSeq (dFor (dItS (dVar 8)) (gdSeq 4 (gdCons (gdName 9) (gdCons (gdName 10) (gdCons (gdName 12) (gdCons (gdName 13) gdNil))))) (dSeq (dSet 11 (dBin oSub (dBin oIxG (dBin oIxG (dVar 5) (dVar 10)) (dC (.int 2))) (dBin oIxG (dBin oIxG (dVar 5) (dVar 9)) (dC (.int 2)))))
    (dSeq (dSet 14 (dComp (.lst []) (dRng2 (dVar 12) (dC (.int 231))) (gdName 15) (dTst (dChn oLe oLe (dUn oNeg (dVar 4)) (dBin oAdd (dBin oMul (dVar 1) (dVar 15)) (dVar 11)) (dVar 4))) [15] (emL (dVar 15))))
    (dSeq (dIfS (tOrD (dTst (dBin oNe (dIf (dTst (dBin oNe (dVar 14) (dLst dNil))) (dBin oIxG (dVar 14) (dC (.int 0))) (dC .non)) (dVar 13))) (tAndD (dTst (dBin oNe (dVar 1) (dC (.int 0)))) (dTst (dBin oGt (dCB oLen (dCons (dVar 14) dNil)) (dBin oAdd (dBin oMul (dC (.int 2)) (dVar 4)) (dC (.int 1))))))) (dRet (dC (.bl false))) dNext)
    (dSeq (dSet 15 (dCall m__law_any [] (dCons (dVar 0) (dCons (dBin oAdd (dLst (dCons (dVar 12) (dCons (dC (.int 230)) (dCons (dC (.int 1000)) dNil)))) (dSl (dVar 14) dNoPart (dPart (dC (.int 1))))) dNil))))
    (dSeq (dSet 16 (dLst (dCons (dCall m_walk_by [] (dCons (dVar 6) (dCons (dC (.int 0)) (dCons (dTup (dCons (dVar 9) (dCons (dVar 10) dNil))) (dCons (dVar 15) dNil))))) (dCons (dCallK m_walk_by (0, [3, 2, 1, 0]) dNil (dCons (dVar 15) (dCons (dTup (dCons (dVar 9) (dCons (dVar 10) dNil))) (dCons (dC (.int 0)) (dCons (dVar 6) dNil))))) dNil))))
    (dIfS (tNotD (dTst (dCall m__law_same [] (dCons (dVar 16) (dCons (dBin oMul (dLst (dCons (dBin oAdd (dBin oMul (dVar 1) (dVar 15)) (dVar 11)) dNil)) (dC (.int 2))) dNil))))) (dRet (dC (.bl false))) dNext)))))))
    (dRet (dC (.bl true)))))))))))
noncomputable def m__law_pair_right : List D → M D := frmF 5 17 (b__law_pair_right)
noncomputable def b__law_right : En → M Fl := (dSeq (dFor (dRng1 (dC (.int 25))) (gdName 1) (dSeq (dPar 2 3 (dCons (dBin oSub (dCall m__law_deal [] (dCons (dVar 0) (dCons (dC (.int 19)) dNil))) (dC (.int 9))) (dCons (dCall m__law_deal [] (dCons (dVar 0) (dCons (dC (.int 10)) dNil))) dNil)))
    (dSeq (dPar 4 5 (dCons (dBin oSub (dCall m__law_deal [] (dCons (dVar 0) (dCons (dC (.int 199)) dNil))) (dC (.int 99))) (dCons (dCall m__law_any [] (dCons (dVar 0) (dCons (dLst (dCons (dBin oSub (dCall m__law_deal [] (dCons (dVar 0) (dCons (dC (.int 199)) dNil))) (dC (.int 99))) (dCons (dC (.int 99)) (dCons (dUn oNeg (dC (.int 99))) dNil)))) dNil))) dNil)))
    (dSeq (dIfS (dTst (dBin oEq (dCall m__law_deal [] (dCons (dVar 0) (dCons (dC (.int 3)) dNil))) (dC (.int 0)))) (dSet 5 (dCB oMax2 (dCons (dUn oNeg (dC (.int 99))) (dCons (dCB oMin2 (dCons (dC (.int 99)) (dCons (dBin oSub (dBin oAdd (dVar 4) (dCall m__law_deal [] (dCons (dVar 0) (dCons (dC (.int 21)) dNil)))) (dC (.int 10))) dNil))) dNil)))) dNext)
    (dIfS (tNotD (dTst (dCall m__law_pair_right [] (dCons (dVar 0) (dCons (dVar 2) (dCons (dVar 4) (dCons (dVar 5) (dCons (dVar 3) dNil)))))))) (dRet (dC (.bl false))) dNext)))))
    (dSeq (dFor (dItS (dTup (dCons (dTup (dCons (dC (.int 1)) (dCons (dUn oNeg (dC (.int 99))) (dCons (dC (.int 99)) (dCons (dC (.int 9)) dNil))))) (dCons (dTup (dCons (dUn oNeg (dC (.int 1))) (dCons (dUn oNeg (dC (.int 99))) (dCons (dC (.int 99)) (dCons (dC (.int 0)) dNil))))) (dCons (dTup (dCons (dC (.int 0)) (dCons (dC (.int 5)) (dCons (dC (.int 5)) (dCons (dC (.int 0)) dNil))))) dNil))))) (gdSeq 4 (gdCons (gdName 2) (gdCons (gdName 4) (gdCons (gdName 5) (gdCons (gdName 3) gdNil))))) (dIfS (tNotD (dTst (dCall m__law_pair_right [] (dCons (dVar 0) (dCons (dVar 2) (dCons (dVar 4) (dCons (dVar 5) (dCons (dVar 3) dNil)))))))) (dRet (dC (.bl false))) dNext))
    (dRet (dC (.bl true)))))
noncomputable def m__law_right : List D → M D := frmF 1 6 (b__law_right)
noncomputable def b_law : En → M Fl := (dRet (dCB oAll (dCons (dComp (.lst []) (dRng1 (dCB oMax2 (dCons (dC (.int 1)) (dCons (dCB oMin2 (dCons (dCB oLen (dCons (dVar 0) dNil)) (dCons (dC (.int 3)) dNil))) dNil)))) (gdName 1) tTrue [1] (emL (dCall m__law_right [] (dCons (dCall m__law_pail [] (dCons (dVar 0) (dCons (dVar 1) dNil))) dNil)))) dNil)))
noncomputable def m_law : List D → M D := frmF 1 2 (b_law)
end DS.Lw
/-! the defs by their bodies (printed by gen.py) -/
namespace DS.Lw
open PySem L2 PySem.Spec PyProof.Rows
def top (i : Nat) : Stmt := PySem.Challenge.pw_handrows_k27_main_whole_free_windings_by.main.body.getD i (.Pass ⟨0, 0, 0, 0⟩)
theorem boot_tuple2 : bootBuiltins "tuple" = some (.type "tuple") := by decide +kernel
abbrev s_is_whole : Stmt := top 10
abbrev s_is_number : Stmt := top 11
abbrev s_is_word : Stmt := top 12
abbrev s_is_tuple_of : Stmt := top 13
abbrev s_is_short_tuple : Stmt := top 14
abbrev s_is_one_of : Stmt := top 15
abbrev s_is_headed : Stmt := top 16
abbrev s_check_reach : Stmt := top 20
abbrev s_bodies_of : Stmt := top 24
abbrev s_size_of : Stmt := top 25
abbrev s_items_of : Stmt := top 26
abbrev s_BareLoop_init : Stmt := inClass (top 27) 0
abbrev s_loops_of : Stmt := top 28
abbrev s_references_of : Stmt := top 29
abbrev s_is_plain_item : Stmt := top 41
abbrev s_is_reference : Stmt := top 42
abbrev s_is_inner : Stmt := top 43
abbrev s_is_item : Stmt := top 44
abbrev s_is_body : Stmt := top 45
abbrev s_are_lengths : Stmt := top 46
abbrev s_is_bare_form : Stmt := top 47
abbrev s_check_bare : Stmt := top 49
abbrev s_check_loop : Stmt := top 50
abbrev s_is_pair : Stmt := top 52
abbrev s_is_link : Stmt := top 53
abbrev s_way_between : Stmt := top 56
abbrev s_is_near : Stmt := top 57
abbrev s_free_winding : Stmt := top 58
abbrev s_Links_init : Stmt := inClass (top 59) 0
abbrev s_Links_classes_found : Stmt := inClass (top 59) 1
abbrev s_Links_way : Stmt := inClass (top 59) 2
abbrev s_Links_told : Stmt := inClass (top 59) 4
abbrev s_check_link : Stmt := top 61
abbrev s_classes : Stmt := top 64
abbrev s_links : Stmt := top 65
abbrev s_walk_by : Stmt := top 66
abbrev s_references : Stmt := top 68
abbrev s__law_pail : Stmt := top 70
abbrev s__law_deal : Stmt := top 71
abbrev s__law_any : Stmt := top 72
abbrev s__law_bare_with : Stmt := top 73
abbrev s__law_same : Stmt := top 74
abbrev s__law_free_by : Stmt := top 75
abbrev s__law_pair_right : Stmt := top 76
abbrev s__law_right : Stmt := top 77
abbrev s_law : Stmt := top 78
structure Tx (K : PySem.W.Frag) (mg : Str → Option Value) : Prop where
  n_isinstance : mg "isinstance" = none
  n_int : mg "int" = none
  n_bool : mg "bool" = none
  n_tuple : mg "tuple" = none
  n_len : mg "len" = none
  n_str : mg "str" = none
  n_sum : mg "sum" = none
  n_enumerate : mg "enumerate" = none
  n_all : mg "all" = none
  n_range : mg "range" = none
  n_sorted : mg "sorted" = none
  n_abs : mg "abs" = none
  n_divmod : mg "divmod" = none
  n_repr : mg "repr" = none
  n_max : mg "max" = none
  n_min : mg "min" = none
  g_ROUND : ∃ t, mg "ROUND" = some (.int 256 t)
  g_MOST_REACH : ∃ t, mg "MOST_REACH" = some (.int 9 t)
  g_MOST_STEP : ∃ t, mg "MOST_STEP" = some (.int 9 t)
  g_MOST_OFFSET : ∃ t, mg "MOST_OFFSET" = some (.int 99 t)
  g_MOST_ROWS : ∃ t, mg "MOST_ROWS" = some (.int 6 t)
  g_MOST_LENGTH : ∃ t, mg "MOST_LENGTH" = some (.int 200 t)
  g_MOST_NAMES : ∃ t, mg "MOST_NAMES" = some (.int 20 t)
  g_MOST_DEEP : ∃ t, mg "MOST_DEEP" = some (.int 4 t)
  g_MOST_ITEMS : ∃ t, mg "MOST_ITEMS" = some (.int 600 t)
  g_MOST_LOOPS : ∃ t, mg "MOST_LOOPS" = some (.int 10 t)
  g_MOST_REFERENCES : ∃ t, mg "MOST_REFERENCES" = some (.int 40 t)
  g_MOST_WINDING : ∃ t, mg "MOST_WINDING" = some (.int 207 t)
  g_MOST_TOLD : ∃ t, mg "MOST_TOLD" = some (.int 1000 t)
  g_LOOP : ∃ t, mg "LOOP" = some (.str "loop" t)
  g_TIMES : ∃ t, mg "TIMES" = some (.str "times" t)
  g_WORD : ∃ t, mg "WORD" = some (.str "word" t)
  g_REACHING : GTup K mg "REACHING" [.str "take", .str "more", .str "less", .str "lay"]
  g_NAMED : GTup K mg "NAMED" [.str "name", .str "keep", .str "plus", .str "minus"]
  g_LONE : GTup K mg "LONE" [.str "read", .str "write"]
  f_at_place : HasF K mg ["BareLoop"] "at_place"
  f_own_inner : HasF K mg ["BareLoop"] "own_inner"
  f_references : HasF K mg ["BareLoop", "Links"] "references"
  f_least : HasF K mg ["Links"] "least"
  f_own_reach : HasF K mg ["Links"] "own_reach"
  f_classes : HasF K mg ["Links"] "classes"
  f_all_links : HasF K mg ["Links"] "all_links"
  f_free : HasF K mg ["Links"] "free"
section
variable {P : Program} {w : World} {K : PySem.W.Frag} {mg : Str → Option Value} {base : Heap}
theorem sc_is_whole : FnScope ["value"] ["value"] (defScope s_is_whole) := ⟨rfl, rfl, rfl, by decide +kernel, rfl, by decide +kernel, by decide +kernel⟩
theorem ok_is_whole (T : Tx K mg)  {f : Addr} {fd : FuncData} (F : FunD K "is_whole" "is_whole" (defArgs s_is_whole) (defBody s_is_whole) (defScope s_is_whole) [] [] f fd) : FnG P w K mg base L2.CX0 1 f fd ["value"] (spD K mg 1 m_is_whole) :=
  fq_F (k := 0) (b := b_is_whole) (n := 1) (m := 1) F sc_is_whole rfl rfl rfl fun cdv A outer s H E hr => (pds_one (pds_ret (pd_and (pd_isi T.n_isinstance T.n_int boot_int (pd_var 0)) (pd_one (pd_not (pd_isi T.n_isinstance T.n_bool boot_bool (pd_var 0)))))))
theorem sc_is_number : FnScope ["value", "low", "most"] ["value", "low", "most"] (defScope s_is_number) := ⟨rfl, rfl, rfl, by decide +kernel, rfl, by decide +kernel, by decide +kernel⟩
theorem ok_is_number (T : Tx K mg) (c_d_is_whole : Cd P w K mg base 1 "is_whole" 1 m_is_whole []) {f : Addr} {fd : FuncData} (F : FunD K "is_number" "is_number" (defArgs s_is_number) (defBody s_is_number) (defScope s_is_number) [V.non] [] f fd) : FnG P w K mg base L2.CX0 2 f fd ["value", "low", "most"] (spD K mg 3 m_is_number) :=
  fq_F (k := 1) (b := b_is_number) (n := 3) (m := 3) F sc_is_number rfl rfl rfl fun cdv A outer s H E hr => (pds_one (pds_ret (pd_and (pq_c c_d_is_whole hr (by decide) (pda_cons (pd_var 0) pda_nil)) (pd_and (pq_cmp (co_le hr) (pd_var 1) (pd_var 0)) (pd_one (pd_or (pq_cmp (co_is hr) (pd_var 2) pd_non) (pd_one (pq_cmp (co_le hr) (pd_var 0) (pd_var 2)))))))))
theorem sc_is_word : FnScope ["value"] ["value"] (defScope s_is_word) := ⟨rfl, rfl, rfl, by decide +kernel, rfl, by decide +kernel, by decide +kernel⟩
theorem ok_is_word (T : Tx K mg) (c_d_is_number : Cd P w K mg base 2 "is_number" 3 m_is_number []) {f : Addr} {fd : FuncData} (F : FunD K "is_word" "is_word" (defArgs s_is_word) (defBody s_is_word) (defScope s_is_word) [] [] f fd) : FnG P w K mg base L2.CX0 3 f fd ["value"] (spD K mg 1 m_is_word) :=
  fq_F (k := 2) (b := b_is_word) (n := 1) (m := 1) F sc_is_word rfl rfl rfl fun cdv A outer s H E hr => (pds_one (pds_ret (pq_c c_d_is_number hr (by decide) (pda_cons (pd_var 0) (pda_cons pd_int (pda_cons (pq_sub (pq_gi T.g_ROUND) pd_int) pda_nil))))))
theorem sc_is_tuple_of : FnScope ["value", "many"] ["value", "many"] (defScope s_is_tuple_of) := ⟨rfl, rfl, rfl, by decide +kernel, rfl, by decide +kernel, by decide +kernel⟩
theorem ok_is_tuple_of (T : Tx K mg)  {f : Addr} {fd : FuncData} (F : FunD K "is_tuple_of" "is_tuple_of" (defArgs s_is_tuple_of) (defBody s_is_tuple_of) (defScope s_is_tuple_of) [] [] f fd) : FnG P w K mg base L2.CX0 1 f fd ["value", "many"] (spD K mg 2 m_is_tuple_of) :=
  fq_F (k := 0) (b := b_is_tuple_of) (n := 2) (m := 2) F sc_is_tuple_of rfl rfl rfl fun cdv A outer s H E hr => (pds_one (pds_ret (pd_and (pd_isi T.n_isinstance T.n_tuple boot_tuple2 (pd_var 0)) (pd_one (pq_cmp (co_eq hr) (pq_b (bo_len T.n_len) (pda_cons (pd_var 0) pda_nil)) (pd_var 1))))))
theorem sc_is_short_tuple : FnScope ["value", "low", "most"] ["value", "low", "most"] (defScope s_is_short_tuple) := ⟨rfl, rfl, rfl, by decide +kernel, rfl, by decide +kernel, by decide +kernel⟩
theorem ok_is_short_tuple (T : Tx K mg)  {f : Addr} {fd : FuncData} (F : FunD K "is_short_tuple" "is_short_tuple" (defArgs s_is_short_tuple) (defBody s_is_short_tuple) (defScope s_is_short_tuple) [] [] f fd) : FnG P w K mg base L2.CX0 1 f fd ["value", "low", "most"] (spD K mg 3 m_is_short_tuple) :=
  fq_F (k := 0) (b := b_is_short_tuple) (n := 3) (m := 3) F sc_is_short_tuple rfl rfl rfl fun cdv A outer s H E hr => (pds_one (pds_ret (pd_and (pd_isi T.n_isinstance T.n_tuple boot_tuple2 (pd_var 0)) (pd_one (pq_chn (co_le hr) (co_le hr) (pd_var 1) (pq_b (bo_len T.n_len) (pda_cons (pd_var 0) pda_nil)) (pd_var 2))))))
theorem sc_is_one_of : FnScope ["value", "some"] ["value", "some"] (defScope s_is_one_of) := ⟨rfl, rfl, rfl, by decide +kernel, rfl, by decide +kernel, by decide +kernel⟩
theorem ok_is_one_of (T : Tx K mg)  {f : Addr} {fd : FuncData} (F : FunD K "is_one_of" "is_one_of" (defArgs s_is_one_of) (defBody s_is_one_of) (defScope s_is_one_of) [] [] f fd) : FnG P w K mg base L2.CX0 1 f fd ["value", "some"] (spD K mg 2 m_is_one_of) :=
  fq_F (k := 0) (b := b_is_one_of) (n := 2) (m := 2) F sc_is_one_of rfl rfl rfl fun cdv A outer s H E hr => (pds_one (pds_ret (pd_and (pd_isi T.n_isinstance T.n_str boot_str (pd_var 0)) (pd_one (pq_cmp (co_in hr) (pd_var 0) (pd_var 1))))))
theorem sc_is_headed : FnScope ["value"] ["value"] (defScope s_is_headed) := ⟨rfl, rfl, rfl, by decide +kernel, rfl, by decide +kernel, by decide +kernel⟩
theorem ok_is_headed (T : Tx K mg)  {f : Addr} {fd : FuncData} (F : FunD K "is_headed" "is_headed" (defArgs s_is_headed) (defBody s_is_headed) (defScope s_is_headed) [] [] f fd) : FnG P w K mg base L2.CX0 1 f fd ["value"] (spD K mg 1 m_is_headed) :=
  fq_F (k := 0) (b := b_is_headed) (n := 1) (m := 1) F sc_is_headed rfl rfl rfl fun cdv A outer s H E hr => (pds_one (pds_ret (pd_and (pd_isi T.n_isinstance T.n_tuple boot_tuple2 (pd_var 0)) (pd_and (pq_cmp (co_gt hr) (pq_b (bo_len T.n_len) (pda_cons (pd_var 0) pda_nil)) pd_int) (pd_one (pd_isi T.n_isinstance T.n_str boot_str (pd_ixG hr.u1 (pd_var 0) pd_int)))))))
theorem sc_check_reach : FnScope ["value"] ["value"] (defScope s_check_reach) := ⟨rfl, rfl, rfl, by decide +kernel, rfl, by decide +kernel, by decide +kernel⟩
theorem ok_check_reach (T : Tx K mg) (c_d_is_number : Cd P w K mg base 2 "is_number" 3 m_is_number []) {f : Addr} {fd : FuncData} (F : FunD K "check_reach" "check_reach" (defArgs s_check_reach) (defBody s_check_reach) (defScope s_check_reach) [] [] f fd) : FnG P w K mg base L2.CX0 3 f fd ["value"] (spD K mg 1 m_check_reach) :=
  fq_F (k := 2) (b := b_check_reach) (n := 1) (m := 1) F sc_check_reach rfl rfl rfl fun cdv A outer s H E hr => (pds_one (pds_if (pdt_not (pdt_val (pq_c c_d_is_number hr (by decide) (pda_cons (pd_var 0) (pda_cons pd_int (pda_cons (pq_gi T.g_MOST_REACH) pda_nil)))))) (pds_one pds_stuck) pds_nil))
theorem sc_bodies_of : FnScope ["item"] ["item"] (defScope s_bodies_of) := ⟨rfl, rfl, rfl, by decide +kernel, rfl, by decide +kernel, by decide +kernel⟩
theorem ok_bodies_of (T : Tx K mg)  {f : Addr} {fd : FuncData} (F : FunD K "bodies_of" "bodies_of" (defArgs s_bodies_of) (defBody s_bodies_of) (defScope s_bodies_of) [] [] f fd) : FnG P w K mg base L2.CX0 1 f fd ["item"] (spD K mg 1 m_bodies_of) :=
  fq_F (k := 0) (b := b_bodies_of) (n := 1) (m := 1) F sc_bodies_of rfl rfl rfl fun cdv A outer s H E hr => (pds_one (pds_ret (pd_if (pqt_cmp (co_in hr) (pd_ixG hr.u1 (pd_var 0) pd_int) (pd_tup (pda_cons (pq_gs T.g_TIMES) (pda_cons (pq_gs T.g_LOOP) pda_nil)))) (pd_sl (pd_var 0) (pdo_some pd_int) (pdo_some pd_int)) (pd_tup pda_nil))))
theorem sc_size_of : FnScope ["body", "inner", "item"] ["body"] (defScope s_size_of) := ⟨rfl, rfl, rfl, by decide +kernel, rfl, by decide +kernel, by decide +kernel⟩
theorem ok_size_of (T : Tx K mg) {lv : Nat} (hlv : 1 ≤ lv) {self : List D → M D} (c_d_bodies_of : Cd P w K mg base 1 "bodies_of" 1 m_bodies_of []) (c_d_size_of : Cd P w K mg base lv "size_of" 1 self []) {f : Addr} {fd : FuncData} (F : FunD K "size_of" "size_of" (defArgs s_size_of) (defBody s_size_of) (defScope s_size_of) [] [] f fd) : FnG P w K mg base L2.CX0 (lv + 1) f fd ["body"] (spD K mg 1 (frmF 1 3 (b_size_of self))) :=
  fq_F (k := lv + 0) (b := b_size_of self) (n := 1) (m := 3) F sc_size_of rfl rfl rfl fun cdv A outer s H E hr => (pds_one (pds_ret (pq_b (bo_sum rfl T.n_sum) (pda_cons (pq_lc [("item", 2)] rfl sc_size_of.nd (pdi_seq (pd_var 0)) (fun _ _ _ _ _ => (pdg_name 2 sc_size_of.nd)) (fun _ _ _ _ _ => pdts_nil) (fun _ _ _ _ _ => (pq_add pd_int (pq_b (bo_sum rfl T.n_sum) (pda_cons (pq_lc [("inner", 1)] rfl sc_size_of.nd (pdi_seq (pq_c c_d_bodies_of hr (by omega) (pda_cons (pd_var 2) pda_nil))) (fun _ _ _ _ _ => (pdg_name 1 sc_size_of.nd)) (fun _ _ _ _ _ => pdts_nil) (fun _ _ _ _ _ => (pq_c c_d_size_of hr (by omega) (pda_cons (pd_var 1) pda_nil)))) pda_nil))))) pda_nil))))
theorem sc_items_of : FnScope ["body", "found", "item", "inner"] ["body"] (defScope s_items_of) := ⟨rfl, rfl, rfl, by decide +kernel, rfl, by decide +kernel, by decide +kernel⟩
theorem ok_items_of (T : Tx K mg) {lv : Nat} (hlv : 1 ≤ lv) {self : List D → M D} (c_d_bodies_of : Cd P w K mg base 1 "bodies_of" 1 m_bodies_of []) (c_d_items_of : Cd P w K mg base lv "items_of" 1 self []) {f : Addr} {fd : FuncData} (F : FunD K "items_of" "items_of" (defArgs s_items_of) (defBody s_items_of) (defScope s_items_of) [] [] f fd) : FnG P w K mg base L2.CX0 (lv + 1) f fd ["body"] (spD K mg 1 (frmF 1 4 (b_items_of self))) :=
  fq_F (k := lv + 0) (b := b_items_of self) (n := 1) (m := 4) F sc_items_of rfl rfl rfl fun cdv A outer s H E hr => (pds_cons (pds_set 1 sc_items_of.nd (pd_lstM pda_nil))
    (pds_cons (pds_for PassesOwn.never rfl (pdi_seq (pd_var 0)) (pdg_name 2 sc_items_of.nd) (pds_cons (pds_expr (pd_bm PySem.F.plainAttrs_list PySem.F.slot_list_append PySem.F.type_list_append mt_append im_append (pd_var 1) (pda_cons (pd_var 2) pda_nil)))
    (pds_one (pds_for PassesOwn.never rfl (pdi_seq (pq_c c_d_bodies_of hr (by omega) (pda_cons (pd_var 2) pda_nil))) (pdg_name 3 sc_items_of.nd) (pds_one (pds_expr (pd_bm PySem.F.plainAttrs_list PySem.F.slot_list_extend PySem.F.type_list_extend mt_extend im_extend (pd_var 1) (pda_cons (pq_c c_d_items_of hr (by omega) (pda_cons (pd_var 3) pda_nil)) pda_nil))))))))
    (pds_one (pds_ret (pd_var 1)))))
theorem sc_BareLoop_init : FnScope ["self", "place", "inner", "item"] ["self", "place", "inner"] (defScope s_BareLoop_init) := ⟨rfl, rfl, rfl, by decide +kernel, rfl, by decide +kernel, by decide +kernel⟩
theorem ok_BareLoop_init (T : Tx K mg)  {f : Addr} {fd : FuncData} (F : FunD K "__init__" "BareLoop.__init__" (defArgs s_BareLoop_init) (defBody s_BareLoop_init) (defScope s_BareLoop_init) [] [] f fd) : FnG P w K mg base L2.CX0 1 f fd ["self", "place", "inner"] (spD K mg 3 m_BareLoop_init) :=
  fq_K (k := 0) (b := b_BareLoop_init) (n := 3) (m := 4) F sc_BareLoop_init rfl rfl rfl fun cdv A outer s H E hr => (pds_cons (pds_fld T.f_at_place (pd_var 0) (pd_var 1))
    (pds_cons (pds_fld T.f_own_inner (pd_var 0) (pd_var 2))
    (pds_one (pds_fld T.f_references (pd_var 0) (pq_ty (bo_tuple T.n_tuple) (pda_cons (pq_lc [("item", 3)] rfl sc_BareLoop_init.nd (pdi_seq (pd_var 2)) (fun _ _ _ _ _ => (pdg_name 3 sc_BareLoop_init.nd)) (fun _ _ _ _ _ => (pdts_one (pqt_cmp (co_in hr) (pd_ixG hr.u1 (pd_var 3) pd_int) (pq_gt T.g_REACHING)))) (fun _ _ _ _ _ => (pd_sl (pd_var 3) (pdo_some pd_int) pdo_none))) pda_nil))))))
theorem sc_loops_of : FnScope ["body", "items", "place", "item"] ["body"] (defScope s_loops_of) := ⟨rfl, rfl, rfl, by decide +kernel, rfl, by decide +kernel, by decide +kernel⟩
theorem ok_loops_of (T : Tx K mg) (c_d_items_of : Cd P w K mg base 14 "items_of" 1 (m_items_of 12) []) (c_mk_BareLoop_init : Cc P w K mg base 1 "BareLoop" 3 m_BareLoop_init []) {f : Addr} {fd : FuncData} (F : FunD K "loops_of" "loops_of" (defArgs s_loops_of) (defBody s_loops_of) (defScope s_loops_of) [] [] f fd) : FnG P w K mg base L2.CX0 15 f fd ["body"] (spD K mg 1 m_loops_of) :=
  fq_F (k := 14) (b := b_loops_of) (n := 1) (m := 4) F sc_loops_of rfl rfl rfl fun cdv A outer s H E hr => (pds_cons (pds_set 1 sc_loops_of.nd (pq_c c_d_items_of hr (by decide) (pda_cons (pd_var 0) pda_nil)))
    (pds_one (pds_ret (pq_lc [("place", 2), ("item", 3)] rfl sc_loops_of.nd (pdi_enum T.n_enumerate (pd_var 1)) (fun _ _ _ _ _ => (pdg_seq rfl (pdgs_cons (pdg_name 2 sc_loops_of.nd) (pdgs_cons (pdg_name 3 sc_loops_of.nd) pdgs_nil)))) (fun _ _ _ _ _ => (pdts_one (pqt_cmp (co_eq hr) (pd_ixG hr.u1 (pd_var 3) pd_int) (pq_gs T.g_LOOP)))) (fun _ _ _ _ _ => (pq_mk c_mk_BareLoop_init hr (by decide) (pda_cons (pd_var 2) (pda_cons (pd_ixG hr.u1 (pd_var 3) pd_int) pda_nil))))))))
theorem sc_references_of : FnScope ["bare", "loop"] ["bare", "loop"] (defScope s_references_of) := ⟨rfl, rfl, rfl, by decide +kernel, rfl, by decide +kernel, by decide +kernel⟩
theorem ok_references_of (T : Tx K mg) (c_d_loops_of : Cd P w K mg base 15 "loops_of" 1 m_loops_of []) {f : Addr} {fd : FuncData} (F : FunD K "references_of" "references_of" (defArgs s_references_of) (defBody s_references_of) (defScope s_references_of) [] [] f fd) : FnG P w K mg base L2.CX0 16 f fd ["bare", "loop"] (spD K mg 2 m_references_of) :=
  fq_F (k := 15) (b := b_references_of) (n := 2) (m := 2) F sc_references_of rfl rfl rfl fun cdv A outer s H E hr => (pds_one (pds_ret (pd_fld T.f_references (pd_ixG hr.u1 (pq_c c_d_loops_of hr (by decide) (pda_cons (pd_ixG hr.u1 (pd_var 0) pd_int) pda_nil)) (pd_var 1)))))
theorem sc_is_plain_item : FnScope ["value", "many_names", "word", "number"] ["value", "many_names"] (defScope s_is_plain_item) := ⟨rfl, rfl, rfl, by decide +kernel, rfl, by decide +kernel, by decide +kernel⟩
theorem ok_is_plain_item (T : Tx K mg) (c_d_is_tuple_of : Cd P w K mg base 1 "is_tuple_of" 2 m_is_tuple_of []) (c_d_is_headed : Cd P w K mg base 1 "is_headed" 1 m_is_headed []) (c_d_is_word : Cd P w K mg base 3 "is_word" 1 m_is_word []) (c_d_is_one_of : Cd P w K mg base 1 "is_one_of" 2 m_is_one_of []) (c_d_is_number : Cd P w K mg base 2 "is_number" 3 m_is_number []) {f : Addr} {fd : FuncData} (F : FunD K "is_plain_item" "is_plain_item" (defArgs s_is_plain_item) (defBody s_is_plain_item) (defScope s_is_plain_item) [] [] f fd) : FnG P w K mg base L2.CX0 4 f fd ["value", "many_names"] (spD K mg 2 m_is_plain_item) :=
  fq_F (k := 3) (b := b_is_plain_item) (n := 2) (m := 4) F sc_is_plain_item rfl rfl rfl fun cdv A outer s H E hr => (pds_cons (pds_if (pdt_w (pdw_or (pdt_not (pdt_val (pq_c c_d_is_tuple_of hr (by decide) (pda_cons (pd_var 0) (pda_cons pd_int pda_nil))))) (pdw_or1 (pdt_not (pdt_val (pq_c c_d_is_headed hr (by decide) (pda_cons (pd_var 0) pda_nil))))))) (pds_one (pds_ret pd_bl)) pds_nil)
    (pds_cons (pds_asg (pd_var 0) (pdg_seq rfl (pdgs_cons (pdg_name 2 sc_is_plain_item.nd) (pdgs_cons (pdg_name 3 sc_is_plain_item.nd) pdgs_nil))))
    (pds_cons (pds_if (pqt_cmp (co_eq hr) (pd_var 2) (pq_gs T.g_WORD)) (pds_one (pds_ret (pq_c c_d_is_word hr (by decide) (pda_cons (pd_var 3) pda_nil)))) pds_nil)
    (pds_cons (pds_if (pdt_val (pq_c c_d_is_one_of hr (by decide) (pda_cons (pd_var 2) (pda_cons (pq_gt T.g_NAMED) pda_nil)))) (pds_one (pds_ret (pq_c c_d_is_number hr (by decide) (pda_cons (pd_var 3) (pda_cons pd_int (pda_cons (pq_sub (pd_var 1) pd_int) pda_nil)))))) pds_nil)
    (pds_one (pds_ret (pd_and (pq_c c_d_is_one_of hr (by decide) (pda_cons (pd_var 2) (pda_cons (pq_gt T.g_LONE) pda_nil))) (pd_one (pq_c c_d_is_number hr (by decide) (pda_cons (pd_var 3) (pda_cons pd_int (pda_cons pd_int pda_nil))))))))))))
theorem sc_is_reference : FnScope ["value", "many_rows", "_", "row", "step", "offset"] ["value", "many_rows"] (defScope s_is_reference) := ⟨rfl, rfl, rfl, by decide +kernel, rfl, by decide +kernel, by decide +kernel⟩
theorem ok_is_reference (T : Tx K mg) (c_d_is_tuple_of : Cd P w K mg base 1 "is_tuple_of" 2 m_is_tuple_of []) (c_d_is_headed : Cd P w K mg base 1 "is_headed" 1 m_is_headed []) (c_d_is_one_of : Cd P w K mg base 1 "is_one_of" 2 m_is_one_of []) (c_d_is_number : Cd P w K mg base 2 "is_number" 3 m_is_number []) {f : Addr} {fd : FuncData} (F : FunD K "is_reference" "is_reference" (defArgs s_is_reference) (defBody s_is_reference) (defScope s_is_reference) [] [] f fd) : FnG P w K mg base L2.CX0 3 f fd ["value", "many_rows"] (spD K mg 2 m_is_reference) :=
  fq_F (k := 2) (b := b_is_reference) (n := 2) (m := 6) F sc_is_reference rfl rfl rfl fun cdv A outer s H E hr => (pds_cons (pds_if (pdt_w (pdw_or (pdt_not (pdt_val (pq_c c_d_is_tuple_of hr (by decide) (pda_cons (pd_var 0) (pda_cons pd_int pda_nil))))) (pdw_or (pdt_not (pdt_val (pq_c c_d_is_headed hr (by decide) (pda_cons (pd_var 0) pda_nil)))) (pdw_or1 (pdt_not (pdt_val (pq_c c_d_is_one_of hr (by decide) (pda_cons (pd_ixG hr.u1 (pd_var 0) pd_int) (pda_cons (pq_gt T.g_REACHING) pda_nil))))))))) (pds_one (pds_ret pd_bl)) pds_nil)
    (pds_cons (pds_asg (pd_var 0) (pdg_seq rfl (pdgs_cons (pdg_name 2 sc_is_reference.nd) (pdgs_cons (pdg_name 3 sc_is_reference.nd) (pdgs_cons (pdg_name 4 sc_is_reference.nd) (pdgs_cons (pdg_name 5 sc_is_reference.nd) pdgs_nil))))))
    (pds_cons (pds_if (pdt_w (pdw_or (pdt_not (pdt_val (pq_c c_d_is_number hr (by decide) (pda_cons (pd_var 3) (pda_cons pd_int (pda_cons (pq_sub (pd_var 1) pd_int) pda_nil)))))) (pdw_or1 (pdt_not (pdt_val (pq_c c_d_is_number hr (by decide) (pda_cons (pd_var 4) (pda_cons (pq_neg (pq_gi T.g_MOST_STEP)) (pda_cons (pq_gi T.g_MOST_STEP) pda_nil))))))))) (pds_one (pds_ret pd_bl)) pds_nil)
    (pds_one (pds_ret (pq_c c_d_is_number hr (by decide) (pda_cons (pd_var 5) (pda_cons (pq_neg (pq_gi T.g_MOST_OFFSET)) (pda_cons (pq_gi T.g_MOST_OFFSET) pda_nil)))))))))
theorem sc_is_inner : FnScope ["value", "many_names", "many_rows", "item"] ["value", "many_names", "many_rows"] (defScope s_is_inner) := ⟨rfl, rfl, rfl, by decide +kernel, rfl, by decide +kernel, by decide +kernel⟩
theorem ok_is_inner (T : Tx K mg) (c_d_is_plain_item : Cd P w K mg base 4 "is_plain_item" 2 m_is_plain_item []) (c_d_is_reference : Cd P w K mg base 3 "is_reference" 2 m_is_reference []) {f : Addr} {fd : FuncData} (F : FunD K "is_inner" "is_inner" (defArgs s_is_inner) (defBody s_is_inner) (defScope s_is_inner) [] [] f fd) : FnG P w K mg base L2.CX0 5 f fd ["value", "many_names", "many_rows"] (spD K mg 3 m_is_inner) :=
  fq_F (k := 4) (b := b_is_inner) (n := 3) (m := 4) F sc_is_inner rfl rfl rfl fun cdv A outer s H E hr => (pds_cons (pds_if (pdt_w (pdw_or (pdt_not (pdt_val (pd_isi T.n_isinstance T.n_tuple boot_tuple2 (pd_var 0)))) (pdw_or1 (pqt_cmp (co_eq hr) (pd_var 0) (pd_tup pda_nil))))) (pds_one (pds_ret pd_bl)) pds_nil)
    (pds_one (pds_ret (pq_b (bo_all rfl T.n_all) (pda_cons (pq_lc [("item", 3)] rfl sc_is_inner.nd (pdi_seq (pd_var 0)) (fun _ _ _ _ _ => (pdg_name 3 sc_is_inner.nd)) (fun _ _ _ _ _ => pdts_nil) (fun _ _ _ _ _ => (pd_or (pq_c c_d_is_plain_item hr (by decide) (pda_cons (pd_var 3) (pda_cons (pd_var 1) pda_nil))) (pd_one (pq_c c_d_is_reference hr (by decide) (pda_cons (pd_var 3) (pda_cons (pd_var 2) pda_nil))))))) pda_nil)))))
theorem sc_is_item : FnScope ["value", "many_names", "many_rows", "deep"] ["value", "many_names", "many_rows", "deep"] (defScope s_is_item) := ⟨rfl, rfl, rfl, by decide +kernel, rfl, by decide +kernel, by decide +kernel⟩
theorem ok_is_item (T : Tx K mg) {lv : Nat} (hlv : 5 ≤ lv) {self : List D → M D} (c_d_is_tuple_of : Cd P w K mg base 1 "is_tuple_of" 2 m_is_tuple_of []) (c_d_is_headed : Cd P w K mg base 1 "is_headed" 1 m_is_headed []) (c_d_is_body : Cd P w K mg base lv "is_body" 4 self []) (c_d_is_inner : Cd P w K mg base 5 "is_inner" 3 m_is_inner []) (c_d_is_plain_item : Cd P w K mg base 4 "is_plain_item" 2 m_is_plain_item []) {f : Addr} {fd : FuncData} (F : FunD K "is_item" "is_item" (defArgs s_is_item) (defBody s_is_item) (defScope s_is_item) [] [] f fd) : FnG P w K mg base L2.CX0 (lv + 1) f fd ["value", "many_names", "many_rows", "deep"] (spD K mg 4 (frmF 4 4 (b_is_item self))) :=
  fq_F (k := lv + 0) (b := b_is_item self) (n := 4) (m := 4) F sc_is_item rfl rfl rfl fun cdv A outer s H E hr => (pds_cons (pds_if (pdt_w (pdw_and (pdt_val (pq_c c_d_is_tuple_of hr (by omega) (pda_cons (pd_var 0) (pda_cons pd_int pda_nil)))) (pdw_and (pdt_val (pq_c c_d_is_headed hr (by omega) (pda_cons (pd_var 0) pda_nil))) (pdw_and1 (pqt_cmp (co_eq hr) (pd_ixG hr.u1 (pd_var 0) pd_int) (pq_gs T.g_TIMES)))))) (pds_one (pds_ret (pq_c c_d_is_body hr (by omega) (pda_cons (pd_ixG hr.u1 (pd_var 0) pd_int) (pda_cons (pd_var 1) (pda_cons (pd_var 2) (pda_cons (pd_var 3) pda_nil))))))) pds_nil)
    (pds_cons (pds_if (pdt_w (pdw_and (pdt_val (pq_c c_d_is_tuple_of hr (by omega) (pda_cons (pd_var 0) (pda_cons pd_int pda_nil)))) (pdw_and (pdt_val (pq_c c_d_is_headed hr (by omega) (pda_cons (pd_var 0) pda_nil))) (pdw_and1 (pqt_cmp (co_eq hr) (pd_ixG hr.u1 (pd_var 0) pd_int) (pq_gs T.g_LOOP)))))) (pds_one (pds_ret (pq_c c_d_is_inner hr (by omega) (pda_cons (pd_ixG hr.u1 (pd_var 0) pd_int) (pda_cons (pd_var 1) (pda_cons (pd_var 2) pda_nil)))))) pds_nil)
    (pds_one (pds_ret (pq_c c_d_is_plain_item hr (by omega) (pda_cons (pd_var 0) (pda_cons (pd_var 1) pda_nil)))))))
theorem sc_is_body : FnScope ["value", "many_names", "many_rows", "deep", "item"] ["value", "many_names", "many_rows", "deep"] (defScope s_is_body) := ⟨rfl, rfl, rfl, by decide +kernel, rfl, by decide +kernel, by decide +kernel⟩
theorem ok_is_body (T : Tx K mg) {lv : Nat} (hlv : 5 ≤ lv) {self : List D → M D} (c_d_is_item : Cd P w K mg base (lv + 1) "is_item" 4 (m_is_item self) []) {f : Addr} {fd : FuncData} (F : FunD K "is_body" "is_body" (defArgs s_is_body) (defBody s_is_body) (defScope s_is_body) [] [] f fd) : FnG P w K mg base L2.CX0 (lv + 2) f fd ["value", "many_names", "many_rows", "deep"] (spD K mg 4 (frmF 4 5 (b_is_body self))) :=
  fq_F (k := lv + 1) (b := b_is_body self) (n := 4) (m := 5) F sc_is_body rfl rfl rfl fun cdv A outer s H E hr => (pds_cons (pds_if (pdt_w (pdw_or (pqt_cmp (co_le hr) (pd_var 3) pd_int) (pdw_or1 (pdt_not (pdt_val (pd_isi T.n_isinstance T.n_tuple boot_tuple2 (pd_var 0))))))) (pds_one (pds_ret pd_bl)) pds_nil)
    (pds_one (pds_ret (pq_b (bo_all rfl T.n_all) (pda_cons (pq_lc [("item", 4)] rfl sc_is_body.nd (pdi_seq (pd_var 0)) (fun _ _ _ _ _ => (pdg_name 4 sc_is_body.nd)) (fun _ _ _ _ _ => pdts_nil) (fun _ _ _ _ _ => (pq_c c_d_is_item hr (by omega) (pda_cons (pd_var 4) (pda_cons (pd_var 1) (pda_cons (pd_var 2) (pda_cons (pq_sub (pd_var 3) pd_int) pda_nil))))))) pda_nil)))))
theorem sc_are_lengths : FnScope ["value", "length"] ["value"] (defScope s_are_lengths) := ⟨rfl, rfl, rfl, by decide +kernel, rfl, by decide +kernel, by decide +kernel⟩
theorem ok_are_lengths (T : Tx K mg) (c_d_is_short_tuple : Cd P w K mg base 1 "is_short_tuple" 3 m_is_short_tuple []) (c_d_is_number : Cd P w K mg base 2 "is_number" 3 m_is_number []) {f : Addr} {fd : FuncData} (F : FunD K "are_lengths" "are_lengths" (defArgs s_are_lengths) (defBody s_are_lengths) (defScope s_are_lengths) [] [] f fd) : FnG P w K mg base L2.CX0 3 f fd ["value"] (spD K mg 1 m_are_lengths) :=
  fq_F (k := 2) (b := b_are_lengths) (n := 1) (m := 2) F sc_are_lengths rfl rfl rfl fun cdv A outer s H E hr => (pds_cons (pds_if (pdt_not (pdt_val (pq_c c_d_is_short_tuple hr (by decide) (pda_cons (pd_var 0) (pda_cons pd_int (pda_cons (pq_gi T.g_MOST_ROWS) pda_nil)))))) (pds_one (pds_ret pd_bl)) pds_nil)
    (pds_one (pds_ret (pq_b (bo_all rfl T.n_all) (pda_cons (pq_lc [("length", 1)] rfl sc_are_lengths.nd (pdi_seq (pd_var 0)) (fun _ _ _ _ _ => (pdg_name 1 sc_are_lengths.nd)) (fun _ _ _ _ _ => pdts_nil) (fun _ _ _ _ _ => (pq_c c_d_is_number hr (by decide) (pda_cons (pd_var 1) (pda_cons pd_int (pda_cons (pq_gi T.g_MOST_LENGTH) pda_nil)))))) pda_nil)))))
theorem sc_is_bare_form : FnScope ["value", "loops", "own"] ["value"] (defScope s_is_bare_form) := ⟨rfl, rfl, rfl, by decide +kernel, rfl, by decide +kernel, by decide +kernel⟩
theorem ok_is_bare_form (T : Tx K mg) (c_d_is_tuple_of : Cd P w K mg base 1 "is_tuple_of" 2 m_is_tuple_of []) (c_d_is_number : Cd P w K mg base 2 "is_number" 3 m_is_number []) (c_d_are_lengths : Cd P w K mg base 3 "are_lengths" 1 m_are_lengths []) (c_d_is_body : Cd P w K mg base 30 "is_body" 4 (m_is_body 12) []) (c_d_loops_of : Cd P w K mg base 15 "loops_of" 1 m_loops_of []) (c_d_size_of : Cd P w K mg base 14 "size_of" 1 (m_size_of 12) []) {f : Addr} {fd : FuncData} (F : FunD K "is_bare_form" "is_bare_form" (defArgs s_is_bare_form) (defBody s_is_bare_form) (defScope s_is_bare_form) [] [] f fd) : FnG P w K mg base L2.CX0 31 f fd ["value"] (spD K mg 1 m_is_bare_form) :=
  fq_F (k := 30) (b := b_is_bare_form) (n := 1) (m := 3) F sc_is_bare_form rfl rfl rfl fun cdv A outer s H E hr => (pds_cons (pds_if (pdt_w (pdw_or (pdt_not (pdt_val (pq_c c_d_is_tuple_of hr (by decide) (pda_cons (pd_var 0) (pda_cons pd_int pda_nil))))) (pdw_or (pdt_not (pdt_val (pq_c c_d_is_number hr (by decide) (pda_cons (pd_ixG hr.u1 (pd_var 0) pd_int) (pda_cons pd_int (pda_cons (pq_gi T.g_MOST_NAMES) pda_nil)))))) (pdw_or1 (pdt_not (pdt_val (pq_c c_d_are_lengths hr (by decide) (pda_cons (pd_ixG hr.u1 (pd_var 0) pd_int) pda_nil)))))))) (pds_one (pds_ret pd_bl)) pds_nil)
    (pds_cons (pds_if (pdt_not (pdt_val (pq_c c_d_is_body hr (by decide) (pda_cons (pd_ixG hr.u1 (pd_var 0) pd_int) (pda_cons (pd_ixG hr.u1 (pd_var 0) pd_int) (pda_cons (pq_b (bo_len T.n_len) (pda_cons (pd_ixG hr.u1 (pd_var 0) pd_int) pda_nil)) (pda_cons (pq_gi T.g_MOST_DEEP) pda_nil))))))) (pds_one (pds_ret pd_bl)) pds_nil)
    (pds_cons (pds_set 1 sc_is_bare_form.nd (pq_c c_d_loops_of hr (by decide) (pda_cons (pd_ixG hr.u1 (pd_var 0) pd_int) pda_nil)))
    (pds_cons (pds_if (pdt_w (pdw_or (pqt_cmp (co_gt hr) (pq_c c_d_size_of hr (by decide) (pda_cons (pd_ixG hr.u1 (pd_var 0) pd_int) pda_nil)) (pq_gi T.g_MOST_ITEMS)) (pdw_or1 (pqt_cmp (co_gt hr) (pq_b (bo_len T.n_len) (pda_cons (pd_var 1) pda_nil)) (pq_gi T.g_MOST_LOOPS))))) (pds_one (pds_ret pd_bl)) pds_nil)
    (pds_one (pds_ret (pq_b (bo_all rfl T.n_all) (pda_cons (pq_lc [("own", 2)] rfl sc_is_bare_form.nd (pdi_seq (pd_var 1)) (fun _ _ _ _ _ => (pdg_name 2 sc_is_bare_form.nd)) (fun _ _ _ _ _ => pdts_nil) (fun _ _ _ _ _ => (pq_cmp (co_le hr) (pq_b (bo_len T.n_len) (pda_cons (pd_fld T.f_references (pd_var 2)) pda_nil)) (pq_gi T.g_MOST_REFERENCES)))) pda_nil))))))))
theorem sc_check_bare : FnScope ["value"] ["value"] (defScope s_check_bare) := ⟨rfl, rfl, rfl, by decide +kernel, rfl, by decide +kernel, by decide +kernel⟩
theorem ok_check_bare (T : Tx K mg) (c_d_is_bare_form : Cd P w K mg base 31 "is_bare_form" 1 m_is_bare_form []) {f : Addr} {fd : FuncData} (F : FunD K "check_bare" "check_bare" (defArgs s_check_bare) (defBody s_check_bare) (defScope s_check_bare) [] [] f fd) : FnG P w K mg base L2.CX0 32 f fd ["value"] (spD K mg 1 m_check_bare) :=
  fq_F (k := 31) (b := b_check_bare) (n := 1) (m := 1) F sc_check_bare rfl rfl rfl fun cdv A outer s H E hr => (pds_one (pds_if (pdt_not (pdt_val (pq_c c_d_is_bare_form hr (by decide) (pda_cons (pd_var 0) pda_nil)))) (pds_one pds_stuck) pds_nil))
theorem sc_check_loop : FnScope ["bare", "value"] ["bare", "value"] (defScope s_check_loop) := ⟨rfl, rfl, rfl, by decide +kernel, rfl, by decide +kernel, by decide +kernel⟩
theorem ok_check_loop (T : Tx K mg) (c_d_loops_of : Cd P w K mg base 15 "loops_of" 1 m_loops_of []) (c_d_is_number : Cd P w K mg base 2 "is_number" 3 m_is_number []) {f : Addr} {fd : FuncData} (F : FunD K "check_loop" "check_loop" (defArgs s_check_loop) (defBody s_check_loop) (defScope s_check_loop) [] [] f fd) : FnG P w K mg base L2.CX0 16 f fd ["bare", "value"] (spD K mg 2 m_check_loop) :=
  fq_F (k := 15) (b := b_check_loop) (n := 2) (m := 2) F sc_check_loop rfl rfl rfl fun cdv A outer s H E hr => (pds_one (pds_if (pdt_not (pdt_val (pq_c c_d_is_number hr (by decide) (pda_cons (pd_var 1) (pda_cons pd_int (pda_cons (pq_sub (pq_b (bo_len T.n_len) (pda_cons (pq_c c_d_loops_of hr (by decide) (pda_cons (pd_ixG hr.u1 (pd_var 0) pd_int) pda_nil)) pda_nil)) pd_int) pda_nil)))))) (pds_one pds_stuck) pds_nil))
theorem sc_is_pair : FnScope ["value", "each"] ["value"] (defScope s_is_pair) := ⟨rfl, rfl, rfl, by decide +kernel, rfl, by decide +kernel, by decide +kernel⟩
theorem ok_is_pair (T : Tx K mg) (c_d_is_tuple_of : Cd P w K mg base 1 "is_tuple_of" 2 m_is_tuple_of []) (c_d_is_whole : Cd P w K mg base 1 "is_whole" 1 m_is_whole []) {f : Addr} {fd : FuncData} (F : FunD K "is_pair" "is_pair" (defArgs s_is_pair) (defBody s_is_pair) (defScope s_is_pair) [] [] f fd) : FnG P w K mg base L2.CX0 2 f fd ["value"] (spD K mg 1 m_is_pair) :=
  fq_F (k := 1) (b := b_is_pair) (n := 1) (m := 2) F sc_is_pair rfl rfl rfl fun cdv A outer s H E hr => (pds_one (pds_ret (pd_and (pq_c c_d_is_tuple_of hr (by decide) (pda_cons (pd_var 0) (pda_cons pd_int pda_nil))) (pd_one (pq_b (bo_all rfl T.n_all) (pda_cons (pq_lc [("each", 1)] rfl sc_is_pair.nd (pdi_seq (pd_var 0)) (fun _ _ _ _ _ => (pdg_name 1 sc_is_pair.nd)) (fun _ _ _ _ _ => pdts_nil) (fun _ _ _ _ _ => (pq_c c_d_is_whole hr (by decide) (pda_cons (pd_var 1) pda_nil)))) pda_nil))))))
theorem sc_is_link : FnScope ["links", "value"] ["links", "value"] (defScope s_is_link) := ⟨rfl, rfl, rfl, by decide +kernel, rfl, by decide +kernel, by decide +kernel⟩
theorem ok_is_link (T : Tx K mg) (c_d_is_pair : Cd P w K mg base 2 "is_pair" 1 m_is_pair []) {f : Addr} {fd : FuncData} (F : FunD K "is_link" "is_link" (defArgs s_is_link) (defBody s_is_link) (defScope s_is_link) [] [] f fd) : FnG P w K mg base L2.CX0 3 f fd ["links", "value"] (spD K mg 2 m_is_link) :=
  fq_F (k := 2) (b := b_is_link) (n := 2) (m := 2) F sc_is_link rfl rfl rfl fun cdv A outer s H E hr => (pds_one (pds_ret (pd_and (pq_c c_d_is_pair hr (by decide) (pda_cons (pd_var 1) pda_nil)) (pd_one (pq_cmp (co_in hr) (pd_var 1) (pd_fld T.f_least (pd_var 0)))))))
theorem sc_way_between : FnScope ["one", "other", "winding"] ["one", "other", "winding"] (defScope s_way_between) := ⟨rfl, rfl, rfl, by decide +kernel, rfl, by decide +kernel, by decide +kernel⟩
theorem ok_way_between (T : Tx K mg)  {f : Addr} {fd : FuncData} (F : FunD K "way_between" "way_between" (defArgs s_way_between) (defBody s_way_between) (defScope s_way_between) [] [] f fd) : FnG P w K mg base L2.CX0 1 f fd ["one", "other", "winding"] (spD K mg 3 m_way_between) :=
  fq_F (k := 0) (b := b_way_between) (n := 3) (m := 3) F sc_way_between rfl rfl rfl fun cdv A outer s H E hr => (pds_one (pds_ret (pq_sub (pq_add (pq_mul (pd_ixG hr.u1 (pd_var 0) pd_int) (pd_var 2)) (pd_ixG hr.u1 (pd_var 1) pd_int)) (pd_ixG hr.u1 (pd_var 0) pd_int))))
theorem sc_is_near : FnScope ["one", "other", "winding", "reach"] ["one", "other", "winding", "reach"] (defScope s_is_near) := ⟨rfl, rfl, rfl, by decide +kernel, rfl, by decide +kernel, by decide +kernel⟩
theorem ok_is_near (T : Tx K mg) (c_d_way_between : Cd P w K mg base 1 "way_between" 3 m_way_between []) {f : Addr} {fd : FuncData} (F : FunD K "is_near" "is_near" (defArgs s_is_near) (defBody s_is_near) (defScope s_is_near) [] [] f fd) : FnG P w K mg base L2.CX0 2 f fd ["one", "other", "winding", "reach"] (spD K mg 4 m_is_near) :=
  fq_F (k := 1) (b := b_is_near) (n := 4) (m := 4) F sc_is_near rfl rfl rfl fun cdv A outer s H E hr => (pds_one (pds_ret (pq_chn (co_le hr) (co_le hr) (pq_neg (pd_var 3)) (pq_c c_d_way_between hr (by decide) (pda_cons (pd_var 0) (pda_cons (pd_var 1) (pda_cons (pd_var 2) pda_nil)))) (pd_var 3))))
theorem sc_free_winding : FnScope ["one", "other", "least", "reach", "winding"] ["one", "other", "least", "reach"] (defScope s_free_winding) := ⟨rfl, rfl, rfl, by decide +kernel, rfl, by decide +kernel, by decide +kernel⟩
theorem ok_free_winding (T : Tx K mg) (c_d_is_near : Cd P w K mg base 2 "is_near" 4 m_is_near []) {f : Addr} {fd : FuncData} (F : FunD K "free_winding" "free_winding" (defArgs s_free_winding) (defBody s_free_winding) (defScope s_free_winding) [] [] f fd) : FnG P w K mg base L2.CX0 3 f fd ["one", "other", "least", "reach"] (spD K mg 4 m_free_winding) :=
  fq_F (k := 2) (b := b_free_winding) (n := 4) (m := 5) F sc_free_winding rfl rfl rfl fun cdv A outer s H E hr => (pds_cons (pds_for PassesOwn.never rfl (pdi_range2 T.n_range (pd_var 2) (pq_add (pq_gi T.g_MOST_WINDING) pd_int)) (pdg_name 4 sc_free_winding.nd) (pds_one (pds_if (pdt_val (pq_c c_d_is_near hr (by decide) (pda_cons (pd_var 0) (pda_cons (pd_var 1) (pda_cons (pd_var 4) (pda_cons (pd_var 3) pda_nil)))))) (pds_one (pds_ret (pd_var 4))) pds_nil)))
    (pds_one (pds_ret pd_non)))
theorem sc_Links_classes_found : FnScope ["self", "found", "number", "row", "step", "_", "own"] ["self"] (defScope s_Links_classes_found) := ⟨rfl, rfl, rfl, by decide +kernel, rfl, by decide +kernel, by decide +kernel⟩
theorem ok_Links_classes_found (T : Tx K mg)  {f : Addr} {fd : FuncData} (F : FunD K "classes_found" "Links.classes_found" (defArgs s_Links_classes_found) (defBody s_Links_classes_found) (defScope s_Links_classes_found) [] [] f fd) : FnG P w K mg base L2.CX0 1 f fd ["self"] (spD K mg 1 m_Links_classes_found) :=
  fq_F (k := 0) (b := b_Links_classes_found) (n := 1) (m := 7) F sc_Links_classes_found rfl rfl rfl fun cdv A outer s H E hr => (pds_cons (pds_set 1 sc_Links_classes_found.nd pd_newT)
    (pds_cons (pds_for PassesOwn.never rfl (pdi_enum T.n_enumerate (pd_fld T.f_references (pd_var 0))) (pdg_seq rfl (pdgs_cons (pdg_name 2 sc_Links_classes_found.nd) (pdgs_cons (pdg_seq rfl (pdgs_cons (pdg_name 3 sc_Links_classes_found.nd) (pdgs_cons (pdg_name 4 sc_Links_classes_found.nd) (pdgs_cons (pdg_name 5 sc_Links_classes_found.nd) pdgs_nil)))) pdgs_nil))) (pds_one (pds_expr (pd_bm PySem.F.plainAttrs_list PySem.F.slot_list_append PySem.F.type_list_append mt_append im_append (pd_bm PySem.F.plainAttrs_dict PySem.F.slot_dict_setdefault PySem.F.type_dict_setdefault (mt_setdef hr.u1) im_setdef (pd_var 1) (pda_cons (pd_tup (pda_cons (pd_var 3) (pda_cons (pd_var 4) pda_nil))) (pda_cons (pd_lstM pda_nil) pda_nil))) (pda_cons (pd_var 2) pda_nil)))))
    (pds_one (pds_ret (pq_b (bo_sorted hr T.n_sorted) (pda_cons (pd_lock 1 (pq_lc [("own", 6)] rfl sc_Links_classes_found.nd (pdi_vals (pd_var 1)) (fun _ _ _ _ _ => (pdg_name 6 sc_Links_classes_found.nd)) (fun _ _ _ _ _ => pdts_nil) (fun _ _ _ _ _ => (pq_ty (bo_tuple T.n_tuple) (pda_cons (pd_var 6) pda_nil))))) pda_nil))))))
theorem sc_Links_init : FnScope ["self", "bare", "loop", "reach", "own", "one", "two", "link", "number"] ["self", "bare", "loop", "reach"] (defScope s_Links_init) := ⟨rfl, rfl, rfl, by decide +kernel, rfl, by decide +kernel, by decide +kernel⟩
theorem ok_Links_init (T : Tx K mg) (c_d_references_of : Cd P w K mg base 16 "references_of" 2 m_references_of []) (c_m_Links_classes_found : Cm P w K mg base 1 "Links" "classes_found" 1 m_Links_classes_found []) (c_d_free_winding : Cd P w K mg base 3 "free_winding" 4 m_free_winding []) {f : Addr} {fd : FuncData} (F : FunD K "__init__" "Links.__init__" (defArgs s_Links_init) (defBody s_Links_init) (defScope s_Links_init) [] [] f fd) : FnG P w K mg base L2.CX0 17 f fd ["self", "bare", "loop", "reach"] (spD K mg 4 m_Links_init) :=
  fq_K (k := 16) (b := b_Links_init) (n := 4) (m := 9) F sc_Links_init rfl rfl rfl fun cdv A outer s H E hr => (pds_cons (pds_fld T.f_references (pd_var 0) (pq_c c_d_references_of hr (by decide) (pda_cons (pd_var 1) (pda_cons (pd_var 2) pda_nil))))
    (pds_cons (pds_fld T.f_own_reach (pd_var 0) (pd_var 3))
    (pds_cons (pds_fld T.f_classes (pd_var 0) (pq_m0 c_m_Links_classes_found hr (by decide) (pd_var 0)))
    (pds_cons (pds_fld T.f_all_links (pd_var 0) (pq_b (bo_sorted hr T.n_sorted) (pda_cons (pq_lc3 [("own", 4), ("one", 5), ("two", 6)] [5, 6] [6] rfl sc_Links_init.nd (pdi_seq (pd_fld T.f_classes (pd_var 0))) (fun _ _ _ _ _ => (pdg_name 4 sc_Links_init.nd)) (fun _ _ _ _ _ => pdts_nil) (fun _ _ _ _ _ => (pdi_seq (pd_var 4))) (fun _ _ _ _ _ => (pdg_name 5 sc_Links_init.nd)) (fun _ _ _ _ _ => pdts_nil) (fun _ _ _ _ _ => (pdi_seq (pd_var 4))) (fun _ _ _ _ _ => (pdg_name 6 sc_Links_init.nd)) (fun _ _ _ _ _ => pdts_nil) (fun _ _ _ _ _ => (pd_tup (pda_cons (pd_var 5) (pda_cons (pd_var 6) pda_nil))))) pda_nil)))
    (pds_cons (pds_fld T.f_least (pd_var 0) (pq_dcT [("one", 5), ("two", 6)] hr rfl sc_Links_init.nd (pdi_seq (pd_fld T.f_all_links (pd_var 0))) (fun _ _ _ _ _ => (pdg_seq rfl (pdgs_cons (pdg_name 5 sc_Links_init.nd) (pdgs_cons (pdg_name 6 sc_Links_init.nd) pdgs_nil)))) (fun _ _ _ _ _ => pdts_nil) (fun _ _ _ _ _ => (pd_tup (pda_cons (pd_var 5) (pda_cons (pd_var 6) pda_nil)))) (fun _ _ _ _ _ => (pd_if (pqt_cmp (co_gt hr) (pd_var 6) (pd_var 5)) pd_int pd_int))))
    (pds_cons (pds_fld T.f_free (pd_var 0) pd_newT)
    (pds_one (pds_for PassesOwn.never rfl (pdi_seq (pd_fld T.f_all_links (pd_var 0))) (pdg_name 7 sc_Links_init.nd) (pds_cons (pds_asg (pq_lc [("number", 8)] rfl sc_Links_init.nd (pdi_seq (pd_var 7)) (fun _ _ _ _ _ => (pdg_name 8 sc_Links_init.nd)) (fun _ _ _ _ _ => pdts_nil) (fun _ _ _ _ _ => (pd_ixG hr.u1 (pd_fld T.f_references (pd_var 0)) (pd_var 8)))) (pdg_seq rfl (pdgs_cons (pdg_name 5 sc_Links_init.nd) (pdgs_cons (pdg_name 6 sc_Links_init.nd) pdgs_nil))))
    (pds_one (pds_asg (pq_c c_d_free_winding hr (by decide) (pda_cons (pd_var 5) (pda_cons (pd_var 6) (pda_cons (pd_ixG hr.u1 (pd_fld T.f_least (pd_var 0)) (pd_var 7)) (pda_cons (pd_var 3) pda_nil))))) (pdg_sub (pd_fld T.f_free (pd_var 0)) (pd_var 7) (pdset_g hr.u1)))))))))))))
theorem sc_Links_way : FnScope ["self", "link", "winding", "one", "two", "number"] ["self", "link", "winding"] (defScope s_Links_way) := ⟨rfl, rfl, rfl, by decide +kernel, rfl, by decide +kernel, by decide +kernel⟩
theorem ok_Links_way (T : Tx K mg) (c_d_way_between : Cd P w K mg base 1 "way_between" 3 m_way_between []) {f : Addr} {fd : FuncData} (F : FunD K "way" "Links.way" (defArgs s_Links_way) (defBody s_Links_way) (defScope s_Links_way) [] [] f fd) : FnG P w K mg base L2.CX0 2 f fd ["self", "link", "winding"] (spD K mg 3 m_Links_way) :=
  fq_F (k := 1) (b := b_Links_way) (n := 3) (m := 6) F sc_Links_way rfl rfl rfl fun cdv A outer s H E hr => (pds_cons (pds_asg (pq_lc [("number", 5)] rfl sc_Links_way.nd (pdi_seq (pd_var 1)) (fun _ _ _ _ _ => (pdg_name 5 sc_Links_way.nd)) (fun _ _ _ _ _ => pdts_nil) (fun _ _ _ _ _ => (pd_ixG hr.u1 (pd_fld T.f_references (pd_var 0)) (pd_var 5)))) (pdg_seq rfl (pdgs_cons (pdg_name 3 sc_Links_way.nd) (pdgs_cons (pdg_name 4 sc_Links_way.nd) pdgs_nil))))
    (pds_one (pds_ret (pq_c c_d_way_between hr (by decide) (pda_cons (pd_var 3) (pda_cons (pd_var 4) (pda_cons (pd_var 2) pda_nil)))))))
theorem sc_Links_told : FnScope ["self", "link"] ["self"] (defScope s_Links_told) := ⟨rfl, rfl, rfl, by decide +kernel, rfl, by decide +kernel, by decide +kernel⟩
theorem ok_Links_told (T : Tx K mg)  {f : Addr} {fd : FuncData} (F : FunD K "told" "Links.told" (defArgs s_Links_told) (defBody s_Links_told) (defScope s_Links_told) [] [] f fd) : FnG P w K mg base L2.CX0 1 f fd ["self"] (spD K mg 1 m_Links_told) :=
  fq_F (k := 0) (b := b_Links_told) (n := 1) (m := 2) F sc_Links_told rfl rfl rfl fun cdv A outer s H E hr => (pds_one (pds_ret (pq_ty (bo_tuple T.n_tuple) (pda_cons (pq_lc [("link", 1)] rfl sc_Links_told.nd (pdi_seq (pd_fld T.f_all_links (pd_var 0))) (fun _ _ _ _ _ => (pdg_name 1 sc_Links_told.nd)) (fun _ _ _ _ _ => pdts_nil) (fun _ _ _ _ _ => (pd_tup (pda_star (pd_var 1) (pda_cons (pd_ixG hr.u1 (pd_fld T.f_least (pd_var 0)) (pd_var 1)) (pda_cons (pd_ixG hr.u1 (pd_fld T.f_free (pd_var 0)) (pd_var 1)) pda_nil)))))) pda_nil))))
theorem sc_check_link : FnScope ["links", "value"] ["links", "value"] (defScope s_check_link) := ⟨rfl, rfl, rfl, by decide +kernel, rfl, by decide +kernel, by decide +kernel⟩
theorem ok_check_link (T : Tx K mg) (c_d_is_link : Cd P w K mg base 3 "is_link" 2 m_is_link []) {f : Addr} {fd : FuncData} (F : FunD K "check_link" "check_link" (defArgs s_check_link) (defBody s_check_link) (defScope s_check_link) [] [] f fd) : FnG P w K mg base L2.CX0 4 f fd ["links", "value"] (spD K mg 2 m_check_link) :=
  fq_F (k := 3) (b := b_check_link) (n := 2) (m := 2) F sc_check_link rfl rfl rfl fun cdv A outer s H E hr => (pds_one (pds_if (pdt_not (pdt_val (pq_c c_d_is_link hr (by decide) (pda_cons (pd_var 0) (pda_cons (pd_var 1) pda_nil))))) (pds_one pds_stuck) pds_nil))
theorem sc_classes : FnScope ["bare", "loop"] ["bare", "loop"] (defScope s_classes) := ⟨rfl, rfl, rfl, by decide +kernel, rfl, by decide +kernel, by decide +kernel⟩
theorem ok_classes (T : Tx K mg) (c_d_check_bare : Cd P w K mg base 32 "check_bare" 1 m_check_bare []) (c_d_check_loop : Cd P w K mg base 16 "check_loop" 2 m_check_loop []) (c_mk_Links_init : Cc P w K mg base 17 "Links" 4 m_Links_init []) {f : Addr} {fd : FuncData} (F : FunD K "classes" "classes" (defArgs s_classes) (defBody s_classes) (defScope s_classes) [] [] f fd) : FnG P w K mg base L2.CX0 33 f fd ["bare", "loop"] (spD K mg 2 m_classes) :=
  fq_F (k := 32) (b := b_classes) (n := 2) (m := 2) F sc_classes rfl rfl rfl fun cdv A outer s H E hr => (pds_cons (pds_expr (pq_c c_d_check_bare hr (by decide) (pda_cons (pd_var 0) pda_nil)))
    (pds_cons (pds_expr (pq_c c_d_check_loop hr (by decide) (pda_cons (pd_var 0) (pda_cons (pd_var 1) pda_nil))))
    (pds_one (pds_ret (pq_ty (bo_tuple T.n_tuple) (pda_cons (pd_fld T.f_classes (pq_mk c_mk_Links_init hr (by decide) (pda_cons (pd_var 0) (pda_cons (pd_var 1) (pda_cons pd_int pda_nil))))) pda_nil))))))
theorem sc_links : FnScope ["bare", "loop", "reach"] ["bare", "loop", "reach"] (defScope s_links) := ⟨rfl, rfl, rfl, by decide +kernel, rfl, by decide +kernel, by decide +kernel⟩
theorem ok_links (T : Tx K mg) (c_d_check_bare : Cd P w K mg base 32 "check_bare" 1 m_check_bare []) (c_d_check_loop : Cd P w K mg base 16 "check_loop" 2 m_check_loop []) (c_d_check_reach : Cd P w K mg base 3 "check_reach" 1 m_check_reach []) (c_m_Links_told : Cm P w K mg base 1 "Links" "told" 1 m_Links_told []) (c_mk_Links_init : Cc P w K mg base 17 "Links" 4 m_Links_init []) {f : Addr} {fd : FuncData} (F : FunD K "links" "links" (defArgs s_links) (defBody s_links) (defScope s_links) [] [] f fd) : FnG P w K mg base L2.CX0 33 f fd ["bare", "loop", "reach"] (spD K mg 3 m_links) :=
  fq_F (k := 32) (b := b_links) (n := 3) (m := 3) F sc_links rfl rfl rfl fun cdv A outer s H E hr => (pds_cons (pds_expr (pq_c c_d_check_bare hr (by decide) (pda_cons (pd_var 0) pda_nil)))
    (pds_cons (pds_expr (pq_c c_d_check_loop hr (by decide) (pda_cons (pd_var 0) (pda_cons (pd_var 1) pda_nil))))
    (pds_cons (pds_expr (pq_c c_d_check_reach hr (by decide) (pda_cons (pd_var 2) pda_nil)))
    (pds_one (pds_ret (pq_m0 c_m_Links_told hr (by decide) (pq_mk c_mk_Links_init hr (by decide) (pda_cons (pd_var 0) (pda_cons (pd_var 1) (pda_cons (pd_var 2) pda_nil))))))))))
theorem sc_walk_by : FnScope ["bare", "loop", "link", "winding", "found"] ["bare", "loop", "link", "winding"] (defScope s_walk_by) := ⟨rfl, rfl, rfl, by decide +kernel, rfl, by decide +kernel, by decide +kernel⟩
theorem ok_walk_by (T : Tx K mg) (c_d_check_bare : Cd P w K mg base 32 "check_bare" 1 m_check_bare []) (c_d_check_loop : Cd P w K mg base 16 "check_loop" 2 m_check_loop []) (c_mk_Links_init : Cc P w K mg base 17 "Links" 4 m_Links_init []) (c_d_check_link : Cd P w K mg base 4 "check_link" 2 m_check_link []) (c_d_is_number : Cd P w K mg base 2 "is_number" 3 m_is_number []) (c_m_Links_way : Cm P w K mg base 2 "Links" "way" 3 m_Links_way []) {f : Addr} {fd : FuncData} (F : FunD K "walk_by" "walk_by" (defArgs s_walk_by) (defBody s_walk_by) (defScope s_walk_by) [] [] f fd) : FnG P w K mg base L2.CX0 33 f fd ["bare", "loop", "link", "winding"] (spD K mg 4 m_walk_by) :=
  fq_F (k := 32) (b := b_walk_by) (n := 4) (m := 5) F sc_walk_by rfl rfl rfl fun cdv A outer s H E hr => (pds_cons (pds_expr (pq_c c_d_check_bare hr (by decide) (pda_cons (pd_var 0) pda_nil)))
    (pds_cons (pds_expr (pq_c c_d_check_loop hr (by decide) (pda_cons (pd_var 0) (pda_cons (pd_var 1) pda_nil))))
    (pds_cons (pds_set 4 sc_walk_by.nd (pq_mk c_mk_Links_init hr (by decide) (pda_cons (pd_var 0) (pda_cons (pd_var 1) (pda_cons pd_int pda_nil)))))
    (pds_cons (pds_expr (pq_c c_d_check_link hr (by decide) (pda_cons (pd_var 4) (pda_cons (pd_var 2) pda_nil))))
    (pds_cons (pds_if (pdt_not (pdt_val (pq_c c_d_is_number hr (by decide) (pda_cons (pd_var 3) (pda_cons (pd_ixG hr.u1 (pd_fld T.f_least (pd_var 4)) (pd_var 2)) (pda_cons (pq_gi T.g_MOST_TOLD) pda_nil)))))) (pds_one pds_stuck) pds_nil)
    (pds_one (pds_ret (pq_m c_m_Links_way hr (by decide) (pd_var 4) (pda_cons (pd_var 2) (pda_cons (pd_var 3) pda_nil))))))))))
theorem sc_references : FnScope ["bare", "loop"] ["bare", "loop"] (defScope s_references) := ⟨rfl, rfl, rfl, by decide +kernel, rfl, by decide +kernel, by decide +kernel⟩
theorem ok_references (T : Tx K mg) (c_d_check_bare : Cd P w K mg base 32 "check_bare" 1 m_check_bare []) (c_d_check_loop : Cd P w K mg base 16 "check_loop" 2 m_check_loop []) (c_d_references_of : Cd P w K mg base 16 "references_of" 2 m_references_of []) {f : Addr} {fd : FuncData} (F : FunD K "references" "references" (defArgs s_references) (defBody s_references) (defScope s_references) [] [] f fd) : FnG P w K mg base L2.CX0 33 f fd ["bare", "loop"] (spD K mg 2 m_references) :=
  fq_F (k := 32) (b := b_references) (n := 2) (m := 2) F sc_references rfl rfl rfl fun cdv A outer s H E hr => (pds_cons (pds_expr (pq_c c_d_check_bare hr (by decide) (pda_cons (pd_var 0) pda_nil)))
    (pds_cons (pds_expr (pq_c c_d_check_loop hr (by decide) (pda_cons (pd_var 0) (pda_cons (pd_var 1) pda_nil))))
    (pds_one (pds_ret (pq_c c_d_references_of hr (by decide) (pda_cons (pd_var 0) (pda_cons (pd_var 1) pda_nil)))))))
theorem sc__law_pail : FnScope ["script", "turn", "mixed", "cell", "own"] ["script", "turn"] (defScope s__law_pail) := ⟨rfl, rfl, rfl, by decide +kernel, rfl, by decide +kernel, by decide +kernel⟩
theorem ok__law_pail (T : Tx K mg)  {f : Addr} {fd : FuncData} (F : FunD K "_law_pail" "_law_pail" (defArgs s__law_pail) (defBody s__law_pail) (defScope s__law_pail) [] [] f fd) : FnG P w K mg base L2.CX0 1 f fd ["script", "turn"] (spD K mg 2 m__law_pail) :=
  fq_K (k := 0) (b := b__law_pail) (n := 2) (m := 5) F sc__law_pail rfl rfl rfl fun cdv A outer s H E hr => (pds_cons (pds_set 2 sc__law_pail.nd (pq_add pd_int (pq_mul pd_int (pd_var 1))))
    (pds_cons (pds_for PassesOwn.never rfl (pdi_seq (pd_sl (pd_var 0) pdo_none (pdo_some pd_int))) (pdg_name 3 sc__law_pail.nd) (pds_one (pds_set 2 sc__law_pail.nd (pq_mod (pq_ty (bo_int T.n_int) (pda_cons (pq_add (pq_add (pq_mul (pd_var 2) pd_int) (pq_mul (pq_mod (pq_ty (bo_int T.n_int) (pda_cons (pd_var 3) pda_nil)) pd_int) pd_int)) pd_int) pda_nil)) pd_int))))
    (pds_cons (pds_set 4 sc__law_pail.nd (pd_if (pqt_cmp (co_lt hr) (pd_var 1) (pq_b (bo_len T.n_len) (pda_cons (pd_var 0) pda_nil))) (pq_ty (bo_int T.n_int) (pda_cons (pd_ixG hr.u1 (pd_var 0) (pd_var 1)) pda_nil)) pd_int))
    (pds_cons (pds_set 2 sc__law_pail.nd (pq_mod (pq_ty (bo_int T.n_int) (pda_cons (pq_add (pq_add (pq_mul (pd_var 2) pd_int) (pq_mul (pq_mod (pq_ty (bo_int T.n_int) (pda_cons (pd_var 4) pda_nil)) pd_int) pd_int)) pd_int) pda_nil)) pd_int))
    (pds_one (pds_ret (pd_lstM (pda_cons (pd_if (pdt_w (pdw_or (pqt_cmp (co_lt hr) (pd_var 4) pd_int) (pdw_or1 (pqt_cmp (co_ge hr) (pd_var 4) (pq_pow pd_int pd_int))))) (pq_b (bo_abs T.n_abs) (pda_cons (pd_var 4) pda_nil)) pd_int) (pda_cons (pd_var 2) (pda_cons pd_int pda_nil))))))))))
theorem sc__law_deal : FnScope ["pail", "top", "figure", "mixed"] ["pail", "top"] (defScope s__law_deal) := ⟨rfl, rfl, rfl, by decide +kernel, rfl, by decide +kernel, by decide +kernel⟩
theorem ok__law_deal (T : Tx K mg)  {f : Addr} {fd : FuncData} (F : FunD K "_law_deal" "_law_deal" (defArgs s__law_deal) (defBody s__law_deal) (defScope s__law_deal) [] [] f fd) : FnG P w K mg base L2.CX0 1 f fd ["pail", "top"] (spD K mg 2 m__law_deal) :=
  fq_F (k := 0) (b := b__law_deal) (n := 2) (m := 4) F sc__law_deal rfl rfl rfl fun cdv A outer s H E hr => (pds_cons (pds_if (pqt_cmp (co_gt hr) (pd_ixG hr.u1 (pd_var 0) pd_int) pd_int) (pds_cons (pds_asg (pq_b (bo_divmod T.n_divmod) (pda_cons (pd_ixG hr.u1 (pd_var 0) pd_int) (pda_cons (pd_var 1) pda_nil))) (pdg_seq rfl (pdgs_cons (pdg_sub (pd_var 0) pd_int (pdset_g hr.u1)) (pdgs_cons (pdg_name 2 sc__law_deal.nd) pdgs_nil))))
    (pds_one (pds_ret (pd_var 2)))) pds_nil)
    (pds_cons (pds_asg (pq_add (pd_ixG hr.u1 (pd_var 0) pd_int) pd_int) (pdg_sub (pd_var 0) pd_int (pdset_g hr.u1)))
    (pds_cons (pds_set 3 sc__law_deal.nd (pq_mod (pq_ty (bo_int T.n_int) (pda_cons (pq_add (pq_mul (pd_ixG hr.u1 (pd_var 0) pd_int) pd_int) (pq_mul pd_int (pd_ixG hr.u1 (pd_var 0) pd_int))) pda_nil)) pd_int))
    (pds_cons (pds_asg (pq_mod (pq_ty (bo_int T.n_int) (pda_cons (pq_add (pq_mul (pd_var 3) (pq_add (pq_mod (pq_ty (bo_int T.n_int) (pda_cons (pd_var 3) pda_nil)) pd_int) pd_int)) (pq_mul pd_int (pd_ixG hr.u1 (pd_var 0) pd_int))) pda_nil)) pd_int) (pdg_sub (pd_var 0) pd_int (pdset_g hr.u1)))
    (pds_one (pds_ret (pq_mod (pq_ty (bo_int T.n_int) (pda_cons (pq_fdv (pd_ixG hr.u1 (pd_var 0) pd_int) pd_int) pda_nil)) (pd_var 1))))))))
theorem sc__law_any : FnScope ["pail", "some"] ["pail", "some"] (defScope s__law_any) := ⟨rfl, rfl, rfl, by decide +kernel, rfl, by decide +kernel, by decide +kernel⟩
theorem ok__law_any (T : Tx K mg) (c_d__law_deal : Cd P w K mg base 1 "_law_deal" 2 m__law_deal []) {f : Addr} {fd : FuncData} (F : FunD K "_law_any" "_law_any" (defArgs s__law_any) (defBody s__law_any) (defScope s__law_any) [] [] f fd) : FnG P w K mg base L2.CX0 2 f fd ["pail", "some"] (spD K mg 2 m__law_any) :=
  fq_F (k := 1) (b := b__law_any) (n := 2) (m := 2) F sc__law_any rfl rfl rfl fun cdv A outer s H E hr => (pds_one (pds_ret (pd_ixG hr.u1 (pd_var 1) (pq_c c_d__law_deal hr (by decide) (pda_cons (pd_var 0) (pda_cons (pq_b (bo_len T.n_len) (pda_cons (pd_var 1) pda_nil)) pda_nil))))))
theorem sc__law_bare_with : FnScope ["some", "lap", "body", "refs", "inner", "k", "ref"] ["some", "lap"] (defScope s__law_bare_with) := ⟨rfl, rfl, rfl, by decide +kernel, rfl, by decide +kernel, by decide +kernel⟩
theorem ok__law_bare_with (T : Tx K mg)  {f : Addr} {fd : FuncData} (F : FunD K "_law_bare_with" "_law_bare_with" (defArgs s__law_bare_with) (defBody s__law_bare_with) (defScope s__law_bare_with) [] [] f fd) : FnG P w K mg base L2.CX0 1 f fd ["some", "lap"] (spD K mg 2 m__law_bare_with) :=
  fq_F (k := 0) (b := b__law_bare_with) (n := 2) (m := 7) F sc__law_bare_with rfl rfl rfl fun cdv A outer s H E hr => (pds_cons (pds_set 2 sc__law_bare_with.nd (pd_tup pda_nil))
    (pds_cons (pds_for PassesOwn.never rfl (pdi_seq (pd_var 0)) (pdg_name 3 sc__law_bare_with.nd) (pds_cons (pds_set 4 sc__law_bare_with.nd (pd_tup pda_nil))
    (pds_cons (pds_for PassesOwn.never rfl (pdi_enum T.n_enumerate (pd_var 3)) (pdg_seq rfl (pdgs_cons (pdg_name 5 sc__law_bare_with.nd) (pdgs_cons (pdg_name 6 sc__law_bare_with.nd) pdgs_nil))) (pds_one (pds_set 4 sc__law_bare_with.nd (pq_add (pd_var 4) (pd_tup (pda_cons (pq_add (pd_tup (pda_cons (pd_ixG hr.u1 (pd_tup (pda_cons pd_str (pda_cons pd_str (pda_cons pd_str (pda_cons pd_str pda_nil))))) (pq_mod (pq_ty (bo_int T.n_int) (pda_cons (pd_var 5) pda_nil)) pd_int)) pda_nil)) (pq_ty (bo_tuple T.n_tuple) (pda_cons (pd_var 6) pda_nil))) pda_nil))))))
    (pds_one (pds_set 2 sc__law_bare_with.nd (pq_add (pd_var 2) (pd_tup (pda_cons (pd_tup (pda_cons pd_str (pda_cons (pd_var 1) pda_nil))) (pda_cons (pd_tup (pda_cons pd_str (pda_cons (pd_if (pqt_cmp (co_ne hr) (pd_var 4) (pd_tup pda_nil)) (pd_var 4) (pd_tup (pda_cons (pd_tup (pda_cons pd_str (pda_cons pd_int pda_nil))) pda_nil))) pda_nil))) pda_nil)))))))))
    (pds_one (pds_ret (pd_tup (pda_cons pd_int (pda_cons (pd_tup (pda_cons pd_int (pda_cons pd_int pda_nil))) (pda_cons (pd_var 2) pda_nil))))))))
theorem sc__law_same : FnScope ["one", "two"] ["one", "two"] (defScope s__law_same) := ⟨rfl, rfl, rfl, by decide +kernel, rfl, by decide +kernel, by decide +kernel⟩
theorem ok__law_same (T : Tx K mg)  {f : Addr} {fd : FuncData} (F : FunD K "_law_same" "_law_same" (defArgs s__law_same) (defBody s__law_same) (defScope s__law_same) [] [] f fd) : FnG P w K mg base L2.CX0 1 f fd ["one", "two"] (spD K mg 2 m__law_same) :=
  fq_F (k := 0) (b := b__law_same) (n := 2) (m := 2) F sc__law_same rfl rfl rfl fun cdv A outer s H E hr => (pds_one (pds_ret (pq_cmp (co_eq hr) (pq_b (bo_repr hr T.n_repr) (pda_cons (pd_var 0) pda_nil)) (pq_b (bo_repr hr T.n_repr) (pda_cons (pd_var 1) pda_nil)))))
theorem sc__law_free_by : FnScope ["step", "gap", "least", "reach", "wide", "low"] ["step", "gap", "least", "reach"] (defScope s__law_free_by) := ⟨rfl, rfl, rfl, by decide +kernel, rfl, by decide +kernel, by decide +kernel⟩
theorem ok__law_free_by (T : Tx K mg)  {f : Addr} {fd : FuncData} (F : FunD K "_law_free_by" "_law_free_by" (defArgs s__law_free_by) (defBody s__law_free_by) (defScope s__law_free_by) [] [] f fd) : FnG P w K mg base L2.CX0 1 f fd ["step", "gap", "least", "reach"] (spD K mg 4 m__law_free_by) :=
  fq_F (k := 0) (b := b__law_free_by) (n := 4) (m := 6) F sc__law_free_by rfl rfl rfl fun cdv A outer s H E hr => (pds_cons (pds_if (pqt_cmp (co_eq hr) (pd_var 0) pd_int) (pds_one (pds_ret (pd_if (pqt_chn (co_le hr) (co_le hr) (pq_neg (pd_var 3)) (pd_var 1) (pd_var 3)) (pd_var 2) pd_non))) pds_nil)
    (pds_cons (pds_par 4 1 rfl sc__law_free_by.nd (pda_cons (pq_b (bo_abs T.n_abs) (pda_cons (pd_var 0) pda_nil)) (pda_cons (pd_if (pqt_cmp (co_gt hr) (pd_var 0) pd_int) (pd_var 1) (pq_neg (pd_var 1))) pda_nil)))
    (pds_cons (pds_set 5 sc__law_free_by.nd (pq_b (bo_max rfl T.n_max) (pda_cons (pd_var 2) (pda_cons (pq_neg (pq_fdv (pq_add (pd_var 1) (pd_var 3)) (pd_var 4))) pda_nil))))
    (pds_one (pds_ret (pd_if (pqt_cmp (co_le hr) (pq_add (pq_mul (pd_var 4) (pd_var 5)) (pd_var 1)) (pd_var 3)) (pd_var 5) pd_non))))))
theorem sc__law_pair_right : FnScope ["pail", "step", "one", "two", "reach", "refs", "bare", "told", "due", "j", "n", "gap", "least", "free", "fine", "winding", "had"] ["pail", "step", "one", "two", "reach"] (defScope s__law_pair_right) := ⟨rfl, rfl, rfl, by decide +kernel, rfl, by decide +kernel, by decide +kernel⟩
theorem ok__law_pair_right (T : Tx K mg) (c_d__law_bare_with : Cd P w K mg base 1 "_law_bare_with" 2 m__law_bare_with []) (c_k_references_1_loop : Ck P w K mg base 33 "references" 2 m_references ["loop"] (1, [0, 1])) (c_k_classes_1_loop : Ck P w K mg base 33 "classes" 2 m_classes ["loop"] (1, [0, 1])) (c_k_links_2_reach : Ck P w K mg base 33 "links" 3 m_links ["reach"] (2, [0, 1, 2])) (c_d__law_free_by : Cd P w K mg base 1 "_law_free_by" 4 m__law_free_by []) (c_k_links_0_reach_loop_bare : Ck P w K mg base 33 "links" 3 m_links ["reach", "loop", "bare"] (0, [2, 1, 0])) (c_d__law_same : Cd P w K mg base 1 "_law_same" 2 m__law_same []) (c_d__law_any : Cd P w K mg base 2 "_law_any" 2 m__law_any []) (c_k_walk_by_0_winding_link_loop_bare : Ck P w K mg base 33 "walk_by" 4 m_walk_by ["winding", "link", "loop", "bare"] (0, [3, 2, 1, 0])) (c_d_walk_by : Cd P w K mg base 33 "walk_by" 4 m_walk_by []) {f : Addr} {fd : FuncData} (F : FunD K "_law_pair_right" "_law_pair_right" (defArgs s__law_pair_right) (defBody s__law_pair_right) (defScope s__law_pair_right) [] [] f fd) : FnG P w K mg base L2.CX0 34 f fd ["pail", "step", "one", "two", "reach"] (spD K mg 5 m__law_pair_right) :=
  fq_F (k := 33) (b := b__law_pair_right) (n := 5) (m := 17) F sc__law_pair_right rfl rfl rfl fun cdv A outer s H E hr => (pds_cons (pds_set 5 sc__law_pair_right.nd (pd_lst (pda_cons (pd_tup (pda_cons pd_int (pda_cons (pd_var 1) (pda_cons (pd_var 2) pda_nil)))) (pda_cons (pd_tup (pda_cons pd_int (pda_cons (pd_var 1) (pda_cons (pd_var 3) pda_nil)))) pda_nil))))
    (pds_cons (pds_set 6 sc__law_pair_right.nd (pq_c c_d__law_bare_with hr (by decide) (pda_cons (pd_lst (pda_cons (pd_var 5) pda_nil)) (pda_cons pd_int pda_nil))))
    (pds_cons (pds_if (pdt_w (pdw_or (pqt_cmp (co_ne hr) (pq_k c_k_references_1_loop hr (by decide) (pda_cons (pd_var 6) pda_nil) (pdk_cons pd_int pdk_nil)) (pq_ty (bo_tuple T.n_tuple) (pda_cons (pd_var 5) pda_nil))) (pdw_or1 (pqt_cmp (co_ne hr) (pq_k c_k_classes_1_loop hr (by decide) (pda_cons (pd_var 6) pda_nil) (pdk_cons pd_int pdk_nil)) (pd_tup (pda_cons (pd_tup (pda_cons pd_int (pda_cons pd_int pda_nil))) pda_nil)))))) (pds_one (pds_ret pd_bl)) pds_nil)
    (pds_cons (pds_set 7 sc__law_pair_right.nd (pq_k c_k_links_2_reach hr (by decide) (pda_cons (pd_var 6) (pda_cons pd_int pda_nil)) (pdk_cons (pd_var 4) pdk_nil)))
    (pds_cons (pds_set 8 sc__law_pair_right.nd (pd_lstM pda_nil))
    (pds_cons (pds_for PassesOwn.never rfl (pdi_seq (pd_tup (pda_cons pd_int (pda_cons pd_int pda_nil)))) (pdg_name 9 sc__law_pair_right.nd) (pds_one (pds_for PassesOwn.never rfl (pdi_seq (pd_tup (pda_cons pd_int (pda_cons pd_int pda_nil)))) (pdg_name 10 sc__law_pair_right.nd) (pds_cons (pds_asg (pd_tup (pda_cons (pq_sub (pd_ixG hr.u1 (pd_ixG hr.u1 (pd_var 5) (pd_var 10)) pd_int) (pd_ixG hr.u1 (pd_ixG hr.u1 (pd_var 5) (pd_var 9)) pd_int)) (pda_cons (pd_if (pqt_cmp (co_gt hr) (pd_var 10) (pd_var 9)) pd_int pd_int) pda_nil))) (pdg_seq rfl (pdgs_cons (pdg_name 11 sc__law_pair_right.nd) (pdgs_cons (pdg_name 12 sc__law_pair_right.nd) pdgs_nil))))
    (pds_one (pds_expr (pd_bm PySem.F.plainAttrs_list PySem.F.slot_list_append PySem.F.type_list_append mt_append im_append (pd_var 8) (pda_cons (pd_tup (pda_cons (pd_var 9) (pda_cons (pd_var 10) (pda_cons (pd_var 12) (pda_cons (pq_c c_d__law_free_by hr (by decide) (pda_cons (pd_var 1) (pda_cons (pd_var 11) (pda_cons (pd_var 12) (pda_cons (pd_var 4) pda_nil))))) pda_nil))))) pda_nil))))))))
    (pds_cons (pds_if (pdt_not (pdt_val (pq_c c_d__law_same hr (by decide) (pda_cons (pd_lst (pda_cons (pd_var 7) (pda_cons (pq_k0 c_k_links_0_reach_loop_bare hr (by decide) (pdk_cons (pd_var 4) (pdk_cons pd_int (pdk_cons (pd_var 6) pdk_nil)))) pda_nil))) (pda_cons (pd_lst (pda_cons (pq_ty (bo_tuple T.n_tuple) (pda_cons (pd_var 8) pda_nil)) (pda_cons (pq_ty (bo_tuple T.n_tuple) (pda_cons (pd_var 8) pda_nil)) pda_nil))) pda_nil))))) (pds_one (pds_ret pd_bl)) pds_nil)
    (pds_cons (pds_for PassesOwn.never rfl (pdi_seq (pd_var 8)) (pdg_seq rfl (pdgs_cons (pdg_name 9 sc__law_pair_right.nd) (pdgs_cons (pdg_name 10 sc__law_pair_right.nd) (pdgs_cons (pdg_name 12 sc__law_pair_right.nd) (pdgs_cons (pdg_name 13 sc__law_pair_right.nd) pdgs_nil))))) (pds_cons (pds_set 11 sc__law_pair_right.nd (pq_sub (pd_ixG hr.u1 (pd_ixG hr.u1 (pd_var 5) (pd_var 10)) pd_int) (pd_ixG hr.u1 (pd_ixG hr.u1 (pd_var 5) (pd_var 9)) pd_int)))
    (pds_cons (pq_setlc 14 [("winding", 15)] rfl sc__law_pair_right.nd (pdi_range2 T.n_range (pd_var 12) pd_int) (fun _ _ _ _ _ => (pdg_name 15 sc__law_pair_right.nd)) (fun _ _ _ _ _ => (pdts_one (pqt_chn (co_le hr) (co_le hr) (pq_neg (pd_var 4)) (pq_add (pq_mul (pd_var 1) (pd_var 15)) (pd_var 11)) (pd_var 4)))) (fun _ _ _ _ _ => (pd_var 15)))
    (pds_cons (pds_if (pdt_w (pdw_or (pqt_cmp (co_ne hr) (pd_if (pqt_cmp (co_ne hr) (pd_var 14) (pd_lst pda_nil)) (pd_ixG hr.u1 (pd_var 14) pd_int) pd_non) (pd_var 13)) (pdw_or1 (pdt_w (pdw_and (pqt_cmp (co_ne hr) (pd_var 1) pd_int) (pdw_and1 (pqt_cmp (co_gt hr) (pq_b (bo_len T.n_len) (pda_cons (pd_var 14) pda_nil)) (pq_add (pq_mul pd_int (pd_var 4)) pd_int)))))))) (pds_one (pds_ret pd_bl)) pds_nil)
    (pds_cons (pds_set 15 sc__law_pair_right.nd (pq_c c_d__law_any hr (by decide) (pda_cons (pd_var 0) (pda_cons (pq_add (pd_lst (pda_cons (pd_var 12) (pda_cons pd_int (pda_cons pd_int pda_nil)))) (pd_sl (pd_var 14) pdo_none (pdo_some pd_int))) pda_nil))))
    (pds_cons (pds_set 16 sc__law_pair_right.nd (pd_lst (pda_cons (pq_c c_d_walk_by hr (by decide) (pda_cons (pd_var 6) (pda_cons pd_int (pda_cons (pd_tup (pda_cons (pd_var 9) (pda_cons (pd_var 10) pda_nil))) (pda_cons (pd_var 15) pda_nil))))) (pda_cons (pq_k0 c_k_walk_by_0_winding_link_loop_bare hr (by decide) (pdk_cons (pd_var 15) (pdk_cons (pd_tup (pda_cons (pd_var 9) (pda_cons (pd_var 10) pda_nil))) (pdk_cons pd_int (pdk_cons (pd_var 6) pdk_nil))))) pda_nil))))
    (pds_one (pds_if (pdt_not (pdt_val (pq_c c_d__law_same hr (by decide) (pda_cons (pd_var 16) (pda_cons (pq_mul (pd_lst (pda_cons (pq_add (pq_mul (pd_var 1) (pd_var 15)) (pd_var 11)) pda_nil)) pd_int) pda_nil))))) (pds_one (pds_ret pd_bl)) pds_nil))))))))
    (pds_one (pds_ret pd_bl))))))))))
theorem sc__law_right : FnScope ["pail", "turn", "step", "reach", "one", "two"] ["pail"] (defScope s__law_right) := ⟨rfl, rfl, rfl, by decide +kernel, rfl, by decide +kernel, by decide +kernel⟩
theorem ok__law_right (T : Tx K mg) (c_d__law_deal : Cd P w K mg base 1 "_law_deal" 2 m__law_deal []) (c_d__law_any : Cd P w K mg base 2 "_law_any" 2 m__law_any []) (c_d__law_pair_right : Cd P w K mg base 34 "_law_pair_right" 5 m__law_pair_right []) {f : Addr} {fd : FuncData} (F : FunD K "_law_right" "_law_right" (defArgs s__law_right) (defBody s__law_right) (defScope s__law_right) [] [] f fd) : FnG P w K mg base L2.CX0 35 f fd ["pail"] (spD K mg 1 m__law_right) :=
  fq_F (k := 34) (b := b__law_right) (n := 1) (m := 6) F sc__law_right rfl rfl rfl fun cdv A outer s H E hr => (pds_cons (pds_for PassesOwn.never rfl (pdi_range1 T.n_range pd_int) (pdg_name 1 sc__law_right.nd) (pds_cons (pds_par 2 3 rfl sc__law_right.nd (pda_cons (pq_sub (pq_c c_d__law_deal hr (by decide) (pda_cons (pd_var 0) (pda_cons pd_int pda_nil))) pd_int) (pda_cons (pq_c c_d__law_deal hr (by decide) (pda_cons (pd_var 0) (pda_cons pd_int pda_nil))) pda_nil)))
    (pds_cons (pds_par 4 5 rfl sc__law_right.nd (pda_cons (pq_sub (pq_c c_d__law_deal hr (by decide) (pda_cons (pd_var 0) (pda_cons pd_int pda_nil))) pd_int) (pda_cons (pq_c c_d__law_any hr (by decide) (pda_cons (pd_var 0) (pda_cons (pd_lst (pda_cons (pq_sub (pq_c c_d__law_deal hr (by decide) (pda_cons (pd_var 0) (pda_cons pd_int pda_nil))) pd_int) (pda_cons pd_int (pda_cons (pq_neg pd_int) pda_nil)))) pda_nil))) pda_nil)))
    (pds_cons (pds_if (pqt_cmp (co_eq hr) (pq_c c_d__law_deal hr (by decide) (pda_cons (pd_var 0) (pda_cons pd_int pda_nil))) pd_int) (pds_one (pds_set 5 sc__law_right.nd (pq_b (bo_max rfl T.n_max) (pda_cons (pq_neg pd_int) (pda_cons (pq_b (bo_min rfl T.n_min) (pda_cons pd_int (pda_cons (pq_sub (pq_add (pd_var 4) (pq_c c_d__law_deal hr (by decide) (pda_cons (pd_var 0) (pda_cons pd_int pda_nil)))) pd_int) pda_nil))) pda_nil))))) pds_nil)
    (pds_one (pds_if (pdt_not (pdt_val (pq_c c_d__law_pair_right hr (by decide) (pda_cons (pd_var 0) (pda_cons (pd_var 2) (pda_cons (pd_var 4) (pda_cons (pd_var 5) (pda_cons (pd_var 3) pda_nil)))))))) (pds_one (pds_ret pd_bl)) pds_nil))))))
    (pds_cons (pds_for PassesOwn.never rfl (pdi_seq (pd_tup (pda_cons (pd_tup (pda_cons pd_int (pda_cons (pq_neg pd_int) (pda_cons pd_int (pda_cons pd_int pda_nil))))) (pda_cons (pd_tup (pda_cons (pq_neg pd_int) (pda_cons (pq_neg pd_int) (pda_cons pd_int (pda_cons pd_int pda_nil))))) (pda_cons (pd_tup (pda_cons pd_int (pda_cons pd_int (pda_cons pd_int (pda_cons pd_int pda_nil))))) pda_nil))))) (pdg_seq rfl (pdgs_cons (pdg_name 2 sc__law_right.nd) (pdgs_cons (pdg_name 4 sc__law_right.nd) (pdgs_cons (pdg_name 5 sc__law_right.nd) (pdgs_cons (pdg_name 3 sc__law_right.nd) pdgs_nil))))) (pds_one (pds_if (pdt_not (pdt_val (pq_c c_d__law_pair_right hr (by decide) (pda_cons (pd_var 0) (pda_cons (pd_var 2) (pda_cons (pd_var 4) (pda_cons (pd_var 5) (pda_cons (pd_var 3) pda_nil)))))))) (pds_one (pds_ret pd_bl)) pds_nil)))
    (pds_one (pds_ret pd_bl))))
theorem sc_law : FnScope ["script", "turn"] ["script"] (defScope s_law) := ⟨rfl, rfl, rfl, by decide +kernel, rfl, by decide +kernel, by decide +kernel⟩
theorem ok_law (T : Tx K mg) (c_d__law_pail : Cd P w K mg base 1 "_law_pail" 2 m__law_pail []) (c_d__law_right : Cd P w K mg base 35 "_law_right" 1 m__law_right []) {f : Addr} {fd : FuncData} (F : FunD K "law" "law" (defArgs s_law) (defBody s_law) (defScope s_law) [] [] f fd) : FnG P w K mg base L2.CX0 36 f fd ["script"] (spD K mg 1 m_law) :=
  fq_F (k := 35) (b := b_law) (n := 1) (m := 2) F sc_law rfl rfl rfl fun cdv A outer s H E hr => (pds_one (pds_ret (pq_b (bo_all rfl T.n_all) (pda_cons (pq_lc [("turn", 1)] rfl sc_law.nd (pdi_range1 T.n_range (pq_b (bo_max rfl T.n_max) (pda_cons pd_int (pda_cons (pq_b (bo_min rfl T.n_min) (pda_cons (pq_b (bo_len T.n_len) (pda_cons (pd_var 0) pda_nil)) (pda_cons pd_int pda_nil))) pda_nil)))) (fun _ _ _ _ _ => (pdg_name 1 sc_law.nd)) (fun _ _ _ _ _ => pdts_nil) (fun _ _ _ _ _ => (pq_c c_d__law_right hr (by decide) (pda_cons (pq_c c_d__law_pail hr (by decide) (pda_cons (pd_var 0) (pda_cons (pd_var 1) pda_nil))) pda_nil)))) pda_nil))))
end
end DS.Lw
namespace DS.Lw
open PySem L2 PySem.Spec PyProof.Rows
@[simp] theorem x_whole (i : Int) : m_is_whole [.int i] = ret (.bl true) := frm_pure rfl (by simp [b_is_whole]) (by simp [noRef])
@[simp] theorem x_number (v lo hi : Int) : m_is_number [.int v, .int lo, .int hi] = ret (.bl (decide (lo ≤ v ∧ v ≤ hi))) := by
  refine frm_pure rfl ?_ (by simp [noRef])
  simp [b_is_number]
  by_cases h : lo ≤ v <;> simp [h]
end DS.Lw
namespace DS.Lw
open PySem L2 PySem.Spec PyProof.Rows
@[simp] theorem cap_small {n : Nat} (h : n ≤ 1000) : n ≤ CAP := Nat.le_trans h (by decide)
@[simp] theorem x_bod_other (w : Str) (r : List D) (h : inB (.str w) [.str "times", .str "loop"] = some false) : m_bodies_of [.tup (.str w :: r)] = ret (.tup []) := by
  refine frm_pure rfl ?_ (by simp [noRef, noRefL])
  simp [b_bodies_of, atI, ixN, oInG, oIn, isSeqD, h, CAP]
theorem x_bod_loop (w : Str) (x : D) (h : inB (.str w) [.str "times", .str "loop"] = some true) (hx : noRef x = true) : m_bodies_of [.tup [.str w, x]] = ret (.tup [x]) := by
  refine frm_pure rfl ?_ (by simp [noRef, noRefL, hx])
  simp [b_bodies_of, atI, ixN, oInG, oIn, isSeqD, h, CAP, oSl, cutD, HT.sIx]
end DS.Lw
namespace DS.Lw
open PySem L2 PySem.Spec PyProof.Rows
abbrev refD (w : Str) (step off : Int) : D := .tup [.str w, .int 0, .int step, .int off]
theorem in1 : inB (.str "take") [.str "times", .str "loop"] = some false := by decide +kernel
theorem in2 : inB (.str "more") [.str "times", .str "loop"] = some false := by decide +kernel
theorem in3 : inB (.str "word") [.str "times", .str "loop"] = some false := by decide +kernel
theorem in4 : inB (.str "loop") [.str "times", .str "loop"] = some true := by decide +kernel
theorem x_items2 (n : Nat) (w1 w2 : Str) (s1 o1 s2 o2 : Int) (h1 : inB (.str w1) [.str "times", .str "loop"] = some false) (h2 : inB (.str w2) [.str "times", .str "loop"] = some false) :
    m_items_of (n + 1) [.tup [refD w1 s1 o1, refD w2 s2 o2]] = ret (.lst [refD w1 s1 o1, refD w2 s2 o2]) := by
  funext s
  refine frm_run (fl := .rt (.ref s.objs.length)) (own := [.lst [refD w1 s1 o1, refD w2 s2 o2]]) rfl ?_ rfl ?_
  · simp [b_items_of, k_bnd, k_mk, k_ret_s, CAP, dFor, dItS, oWalk, forW, chk_true, dBM, tyM, k_look, mAppend, put, headOk, isLck, noRef, noRefL, loopS, x_bod_other, h1, h2]
  · exact fz_ref (k := 0) (by simp) (sub_noRef _ _ (by simp [noRef, noRefL]))
end DS.Lw
namespace DS.Lw
open PySem L2 PySem.Spec PyProof.Rows
theorem re1 : inB (.str "take") [.str "take", .str "more", .str "less", .str "lay"] = some true := by decide +kernel
theorem re2 : inB (.str "more") [.str "take", .str "more", .str "less", .str "lay"] = some true := by decide +kernel
abbrev innerD (step one two : Int) : D := .tup [refD "take" step one, refD "more" step two]
abbrev bodyD (step one two : Int) : D := .tup [.tup [.str "word", .int 2], .tup [.str "loop", innerD step one two]]
abbrev refsD (step one two : Int) : D := .tup [.tup [.int 0, .int step, .int one], .tup [.int 0, .int step, .int two]]
abbrev loopD (step one two : Int) : D := .ins "BareLoop" ["at_place", "own_inner", "references"] [.int 1, innerD step one two, refsD step one two]
theorem fn1 : ¬ (("at_place" : Str) = "own_inner") := by decide +kernel
theorem fn2 : ¬ (("at_place" : Str) = "references") := by decide +kernel
theorem fn3 : ¬ (("own_inner" : Str) = "references") := by decide +kernel
theorem x_loop (step one two : Int) : makeF "BareLoop" m_BareLoop_init [.int 1, innerD step one two] = ret (loopD step one two) := by
  funext s
  refine makeF_run (own := [loopD step one two]) ?_ ?_
  · refine frmK_run (fl := .nx [some (.ref s.objs.length), some (.int 1), some (innerD step one two), none]) (d := .non) rfl ?_ rfl
    simp [b_BareLoop_init, k_bnd, k_ret_s, CAP, dFldS, stF, k_look, put, headOk, isLck, putFn, putFv, fn1, fn2, fn3, own_get0, own_set0, dComp, cLoop, noEr, dItS, oWalk, chk_true, wipeD, atI, ixN, oInG, oIn, isSeqD, re1, re2, emL, oSl, cutD, HT.sIx]
  · exact fz_ref (k := 0) (by simp) (sub_noRef _ _ (by simp [noRef, noRefL]))
end DS.Lw
namespace DS.Lw
open PySem L2 PySem.Spec PyProof.Rows
theorem so1 : PyData.strOk "word" = true := by decide +kernel
theorem so2 : PyData.strOk "loop" = true := by decide +kernel
theorem so3 : PyData.strOk "take" = true := by decide +kernel
theorem so4 : PyData.strOk "more" = true := by decide +kernel
theorem so5 : PyData.strOk "times" = true := by decide +kernel
theorem se1 : (("word" : Str) == "loop") = false := by decide +kernel
theorem se2 : (("take" : Str) == "loop") = false := by decide +kernel
theorem se3 : (("more" : Str) == "loop") = false := by decide +kernel
theorem se4 : (("loop" : Str) == "loop") = true := by decide +kernel
theorem se5 : (("word" : Str) == "times") = false := by decide +kernel
theorem se6 : (("loop" : Str) == "times") = false := by decide +kernel
theorem se7 : (("take" : Str) == "word") = false := by decide +kernel
theorem se8 : (("more" : Str) == "word") = false := by decide +kernel
theorem se9 : (("word" : Str) == "word") = true := by decide +kernel
theorem x_items (n : Nat) (step one two : Int) : m_items_of (n + 2) [bodyD step one two] = ret (.lst [.tup [.str "word", .int 2], .tup [.str "loop", innerD step one two], refD "take" step one, refD "more" step two]) := by
  funext s
  refine frm_run (fl := .rt (.ref s.objs.length)) (own := [.lst [.tup [.str "word", .int 2], .tup [.str "loop", innerD step one two], refD "take" step one, refD "more" step two]]) rfl ?_ rfl ?_
  · simp [b_items_of, k_bnd, k_mk, k_ret_s, CAP, dFor, dItS, oWalk, forW, chk_true, dBM, tyM, k_look, mAppend, mExtend, put, headOk, isLck, noRef, noRefL, loopS, x_bod_other, x_bod_loop, in3, in4, x_items2, in1, in2]
  · exact fz_ref (k := 0) (by simp) (sub_noRef _ _ (by simp [noRef, noRefL]))
theorem x_loops (step one two : Int) : m_loops_of [bodyD step one two] = ret (.lst [loopD step one two]) := by
  refine frm_pure rfl ?_ (by simp [noRef, noRefL])
  simp [b_loops_of, x_items 10, dComp, cLoop, dItE, oWalk, enumW, enumD, chk_true, wipeD, atI, ixN, so1, so2, so3, so4, se1, se2, se3, se4, dMake, x_loop, emL, CAP, noEr]
theorem rf1 : ¬ (("references" : Str) = "at_place") := by decide +kernel
theorem rf2 : ¬ (("references" : Str) = "own_inner") := by decide +kernel
theorem x_refs_of (nn rows : D) (step one two : Int) : m_references_of [.tup [nn, rows, bodyD step one two], .int 0] = ret (refsD step one two) := by
  refine frm_pure rfl ?_ (by simp [noRef, noRefL])
  simp [b_references_of, atI, ixN, x_loops, oFld, getF, rf1, rf2]
end DS.Lw
namespace DS.Lw
open PySem L2 PySem.Spec PyProof.Rows
/-! size -/
theorem x_size2 (n : Nat) (w1 w2 : Str) (s1 o1 s2 o2 : Int) (h1 : inB (.str w1) [.str "times", .str "loop"] = some false) (h2 : inB (.str w2) [.str "times", .str "loop"] = some false) :
    m_size_of (n + 1) [.tup [refD w1 s1 o1, refD w2 s2 o2]] = ret (.int 2) := by
  refine frm_pure rfl ?_ (by simp [noRef])
  simp [b_size_of, dComp, cLoop, dItS, oWalk, chk_true, wipeD, emL, CAP, noEr, x_bod_other, h1, h2]
theorem x_size (n : Nat) (step one two : Int) : m_size_of (n + 2) [bodyD step one two] = ret (.int 4) := by
  refine frm_pure rfl ?_ (by simp [noRef])
  simp [b_size_of, dComp, cLoop, dItS, oWalk, chk_true, wipeD, emL, CAP, noEr, x_bod_other, x_bod_loop, x_size2, in1, in2, in3, in4, noRef, noRefL]
/-! forms -/
@[simp] theorem x_numberN (v lo : Int) : m_is_number [.int v, .int lo, .non] = ret (.bl (decide (lo ≤ v))) := by
  refine frm_pure rfl ?_ (by simp [noRef])
  simp [b_is_number]
  by_cases h : lo ≤ v <;> simp [h]
@[simp] theorem x_word (v : Int) : m_is_word [.int v] = ret (.bl (decide (0 ≤ v ∧ v ≤ 255))) := by
  refine frm_pure rfl ?_ (by simp [noRef])
  simp [b_is_word]
@[simp] theorem x_tuple_of (xs : List D) (n : Int) : m_is_tuple_of [.tup xs, .int n] = ret (.bl ((xs.length : Int) == n)) := by
  refine frm_pure rfl ?_ (by simp [noRef])
  simp [b_is_tuple_of]
@[simp] theorem x_short_tuple (xs : List D) (lo hi : Int) : m_is_short_tuple [.tup xs, .int lo, .int hi] = ret (.bl (decide (lo ≤ (xs.length : Int) ∧ (xs.length : Int) ≤ hi))) := by
  refine frm_pure rfl ?_ (by simp [noRef])
  simp [b_is_short_tuple]
  by_cases h : lo ≤ (xs.length : Int) <;> simp [h]
@[simp] theorem x_headed (w : Str) (r : List D) : m_is_headed [.tup (.str w :: r)] = ret (.bl true) := by
  refine frm_pure rfl ?_ (by simp [noRef])
  have h : (0 : Int) < (r.length : Int) + 1 := by omega
  simp [b_is_headed, atI, ixN, h]
theorem x_one_of (w : Str) (ys : List D) (k : Bool) (h : inB (.str w) ys = some k) : m_is_one_of [.str w, .gtp ys] = ret (.bl k) := by
  refine frm_pure rfl ?_ (by simp [noRef])
  simp [b_is_one_of, oInG, oIn, isSeqD, h]
theorem nm1 : inB (.str "take") [.str "name", .str "keep", .str "plus", .str "minus"] = some false := by decide +kernel
theorem nm2 : inB (.str "more") [.str "name", .str "keep", .str "plus", .str "minus"] = some false := by decide +kernel
theorem ln1 : inB (.str "take") [.str "read", .str "write"] = some false := by decide +kernel
theorem ln2 : inB (.str "more") [.str "read", .str "write"] = some false := by decide +kernel
theorem so6 : PyData.strOk "lay" = true := by decide +kernel
@[simp] theorem x_plain_ref (w : Str) (s o n : Int) : m_is_plain_item [refD w s o, .int n] = ret (.bl false) := by
  refine frm_pure rfl ?_ (by simp [noRef])
  simp [b_is_plain_item]
@[simp] theorem x_plain_word (v n : Int) : m_is_plain_item [.tup [.str "word", .int v], .int n] = ret (.bl (decide (0 ≤ v ∧ v ≤ 255))) := by
  refine frm_pure rfl ?_ (by simp [noRef])
  simp [b_is_plain_item, so1, se9]
theorem x_reference (w : Str) (s o n : Int) (hw : inB (.str w) [.str "take", .str "more", .str "less", .str "lay"] = some true) (hn : 1 ≤ n) (hs : -9 ≤ s ∧ s ≤ 9) (ho : -99 ≤ o ∧ o ≤ 99) : m_is_reference [refD w s o, .int n] = ret (.bl true) := by
  refine frm_pure rfl ?_ (by simp [noRef])
  have h1 : ¬ n < 1 := by omega
  simp [b_is_reference, atI, ixN, x_one_of _ _ _ hw, h1, hs, ho]
theorem eq_tup_nil (x : D) (xs : List D) (ps : List PyData) (p : PyData) (h1 : toPy x = some p) (h2 : toPyL xs = some ps) (hs : SeqAt.shaped (.tuple (p :: ps)) = true) : eqB (.tup (x :: xs)) (.tup []) = some false := by
  have e1 : toPy (.tup (x :: xs)) = some (.tuple (p :: ps)) := by
    rw [toPy, toPyL, h1, h2]
    rfl
  have e2 : toPy (.tup []) = some (.tuple []) := by
    rw [toPy, toPyL]
    rfl
  unfold eqB
  rw [e1, e2]
  dsimp only
  rw [if_pos ⟨hs, by decide⟩]
  simp [PyData.eqv, PyData.eqvAll]
theorem x_inner (step one two n m : Int) (hm : 1 ≤ m) (hs : -9 ≤ step ∧ step ≤ 9) (h1 : -99 ≤ one ∧ one ≤ 99) (h2 : -99 ≤ two ∧ two ≤ 99) : m_is_inner [innerD step one two, .int n, .int m] = ret (.bl true) := by
  refine frm_pure rfl ?_ (by simp [noRef])
  have e : eqB (innerD step one two) (.tup []) = some false := eq_tup_nil _ _ _ _ rfl rfl (by simp [SeqAt.shaped, PyData.canLay0, PyData.canLayAll0, PyData.depth, PyData.depthAll, so3, so4])
  simp [b_is_inner, oEq, e, dComp, cLoop, dItS, oWalk, chk_true, wipeD, emL, CAP, noEr, x_reference _ _ _ _ re1 hm hs h1, x_reference _ _ _ _ re2 hm hs h2]
end DS.Lw
namespace DS.Lw
open PySem L2 PySem.Spec PyProof.Rows
theorem x_item_word (self : List D → M D) (v n m d : Int) (hv : 0 ≤ v ∧ v ≤ 255) : m_is_item self [.tup [.str "word", .int v], .int n, .int m, .int d] = ret (.bl true) := by
  refine frm_pure rfl ?_ (by simp [noRef])
  simp [b_is_item, atI, ixN, so1, so2, so5, se1, se5, hv]
theorem x_item_loop (self : List D → M D) (step one two n m d : Int) (hm : 1 ≤ m) (hs : -9 ≤ step ∧ step ≤ 9) (h1 : -99 ≤ one ∧ one ≤ 99) (h2 : -99 ≤ two ∧ two ≤ 99) : m_is_item self [.tup [.str "loop", innerD step one two], .int n, .int m, .int d] = ret (.bl true) := by
  refine frm_pure rfl ?_ (by simp [noRef])
  simp [b_is_item, atI, ixN, so2, so5, se4, se6, x_inner _ _ _ _ _ hm hs h1 h2]
theorem x_body (k : Nat) (step one two n m d : Int) (hd : 0 < d) (hm : 1 ≤ m) (hs : -9 ≤ step ∧ step ≤ 9) (h1 : -99 ≤ one ∧ one ≤ 99) (h2 : -99 ≤ two ∧ two ≤ 99) : m_is_body (k + 1) [bodyD step one two, .int n, .int m, .int d] = ret (.bl true) := by
  refine frm_pure rfl ?_ (by simp [noRef])
  have hd' : ¬ d ≤ 0 := by omega
  simp [b_is_body, hd', dComp, cLoop, dItS, oWalk, chk_true, wipeD, emL, CAP, noEr, x_item_word, x_item_loop _ _ _ _ _ _ _ hm hs h1 h2]
theorem x_lengths : m_are_lengths [.tup [.int 30, .int 30]] = ret (.bl true) := by
  refine frm_pure rfl ?_ (by simp [noRef])
  simp [b_are_lengths, dComp, cLoop, dItS, oWalk, chk_true, wipeD, emL, CAP, noEr]
abbrev bareD (step one two : Int) : D := .tup [.int 1, .tup [.int 30, .int 30], bodyD step one two]
def Ok (step one two : Int) : Prop := (-9 ≤ step ∧ step ≤ 9) ∧ (-99 ≤ one ∧ one ≤ 99) ∧ (-99 ≤ two ∧ two ≤ 99)
theorem x_form {step one two : Int} (h : Ok step one two) : m_is_bare_form [bareD step one two] = ret (.bl true) := by
  refine frm_pure rfl ?_ (by simp [noRef])
  obtain ⟨hs, h1, h2⟩ := h
  simp [b_is_bare_form, atI, ixN, x_lengths, x_body 11 step one two 1 2 4 (by omega) (by omega) hs h1 h2, x_loops, x_size 10, oFld, getF, rf1, rf2, dComp, cLoop, dItS, oWalk, chk_true, wipeD, emL, CAP, noEr]
theorem x_check_bare {step one two : Int} (h : Ok step one two) : m_check_bare [bareD step one two] = ret .non := by
  refine frm_pureN (ρ := [some (bareD step one two)]) rfl ?_
  simp [b_check_bare, x_form h]
theorem x_check_loop (step one two : Int) : m_check_loop [bareD step one two, .int 0] = ret .non := by
  refine frm_pureN (ρ := [some (bareD step one two), some (.int 0)]) rfl ?_
  simp [b_check_loop, atI, ixN, x_loops]
theorem x_check_reach {r : Int} (h : 0 ≤ r ∧ r ≤ 9) : m_check_reach [.int r] = ret .non := by
  refine frm_pureN (ρ := [some (.int r)]) rfl ?_
  simp [b_check_reach, h]
theorem x_references {step one two : Int} (h : Ok step one two) : m_references [bareD step one two, .int 0] = ret (refsD step one two) := by
  refine frm_pure rfl ?_ (by simp [noRef, noRefL])
  simp [b_references, x_check_bare h, x_check_loop, x_refs_of]
end DS.Lw
namespace DS.Lw
open PySem L2 PySem.Spec PyProof.Rows
theorem ix0 {x : D} : oIxG (.ref 0) x = oIxG (.ref 0) x := rfl
theorem sort1 : oSorted [.lst [.tup [.int 0, .int 1]]] = ret (.lst [.tup [.int 0, .int 1]]) := by
  have e : toPys [.tup [.int 0, .int 1]] = some [(.tup [.int 0, .int 1], .tuple [.int 0, .int 1])] := by
    simp [toPys, toPy, toPyL]
  unfold oSorted
  dsimp only
  rw [e]
  dsimp only
  rw [if_pos]
  · simp
  · refine ⟨?_, ?_, by decide, ?_⟩
    · simp [PySem.W.AllAlike, PySem.W.alike, PySem.W.alikeAll]
    · simp [PySem.W.Sortable]
    · simp [PyData.depth, PyData.depthAll]
theorem x_found {s : S} {a : Nat} {ns : List Str} {vs : List D} {step one two : Int} (ha : a < s.objs.length) (e : s.objs[a]? = some (.ins "Links" ns vs)) (hf : getF "references" ns vs = some (refsD step one two)) :
    m_Links_classes_found [.ref a] s = some (.ok (.lst [.tup [.int 0, .int 1]]), s) := by
  refine frm_run (fl := .rt (.lst [.tup [.int 0, .int 1]])) (own := [.lckT [[.inl 0, .inl step]] [.ref (s.objs.length + 1)], .lst [.int 0, .int 1], .lst []]) rfl ?_ rfl (fz_noRef (by simp [noRef, noRefL]))
  have e' : ∀ l, (s.objs ++ l)[a]? = some (.ins "Links" ns vs) := fun l => by rw [List.getElem?_append_left ha, e]
  have el : s.objs[a] = .ins "Links" ns vs := by
    rw [List.getElem?_eq_getElem ha] at e
    exact Option.some.inj e
  simp [b_Links_classes_found, k_bnd, k_mk, k_ret_s, CAP, dFor, dItE, oWalk, enumW, enumD, forW, chk_true, dNewT, oFld, dUn, look, e', ha, el, hf, dBM, tyM, mSetdef, dctGet, dctPut, keyT, keysOf, keyK, dget, dputK, dputV, put, headOk, isLck, noRef, noRefL, loopS, mAppend, dLock, lockP, lckD, dItV, oVals, dComp, cLoop, noEr, wipeD, emL, sort1, oTuple, oItems]
end DS.Lw
namespace DS.Lw
open PySem L2 PySem.Spec PyProof.Rows
theorem rangeD_succ (lo : Int) (k : Nat) : rangeD lo (k + 1) = .int lo :: rangeD (lo + 1) k := by
  unfold rangeD
  rw [List.range_succ_eq_map, List.map_cons, List.map_map]
  congr 1
  · simp
  · apply List.map_congr_left
    intro i _
    simp only [Function.comp]
    congr 1
    omega
theorem rangeD_zero (lo : Int) : rangeD lo 0 = [] := rfl
abbrev rowD (st o : Int) : D := .tup [.int 0, .int st, .int o]
def nearP (st df r n : Int) : Bool := decide (-r ≤ st * n + df ∧ st * n + df ≤ r)
def Sml (i : Int) : Prop := -1000000 ≤ i ∧ i ≤ 1000000
theorem cmul_sml {i j : Int} (hi : Sml i) (hj : Sml j) : CMul i j := by
  unfold CMul Sml at *
  omega
theorem x_way {st a b n : Int} (hs : Sml st) (hn : Sml n) : m_way_between [rowD st a, rowD st b, .int n] = ret (.int (st * n + (b - a))) := by
  refine frm_pure rfl ?_ (by simp [noRef])
  simp [b_way_between, atI, ixN, k_mul (cmul_sml hs hn)]
  congr 3
  omega
theorem x_near {st a b n r : Int} (hs : Sml st) (hn : Sml n) : m_is_near [rowD st a, rowD st b, .int n, .int r] = ret (.bl (nearP st (b - a) r n)) := by
  refine frm_pure rfl ?_ (by simp [noRef])
  simp [b_is_near, x_way hs hn, nearP]
  by_cases h : -r ≤ st * n + (b - a) <;> simp [h]
def fwf (st df r : Int) : Nat → Int → Option Int
  | 0, _ => none
  | k + 1, lo => if nearP st df r lo = true then some lo else fwf st df r k (lo + 1)
def fwD (o : Option Int) : D := match o with
  | some n => .int n
  | none => .non
end DS.Lw
namespace DS.Lw
open PySem L2 PySem.Spec PyProof.Rows
theorem k_for {wi : En → M Wl} {g : D → En → M En} {b : En → M Fl} {ρ : En} {wl : Wl} {m : M Fl} (hw : wi ρ = ret wl) (hl : forW wl.ok (fun d ρ => bnd (g d ρ) b) wl.ds ρ = m) : dFor wi g b ρ = m := by
  unfold dFor
  rw [hw]
  exact hl
theorem x_fw_body {st a b r l0 lo : Int} (x : Option D) (hs : Sml st) (hl : Sml lo) : bnd (gdName 4 (.int lo) [some (rowD st a), some (rowD st b), some (.int l0), some (.int r), x]) (dIfS (dTst (dCall m_is_near [] (dCons (dVar 0) (dCons (dVar 1) (dCons (dVar 4) (dCons (dVar 3) dNil)))))) (dRet (dVar 4)) dNext) =
    ret (if nearP st (b - a) r lo = true then .rt (.int lo) else .nx [some (rowD st a), some (rowD st b), some (.int l0), some (.int r), some (.int lo)]) := by
  simp [x_near hs hl]
  split <;> rfl
theorem x_fw_loop {st a b r l0 : Int} (hs : Sml st) (bd : D → En → M Fl) (hbd : bd = fun d ρ => bnd (gdName 4 d ρ) (dIfS (dTst (dCall m_is_near [] (dCons (dVar 0) (dCons (dVar 1) (dCons (dVar 4) (dCons (dVar 3) dNil)))))) (dRet (dVar 4)) dNext)) :
    ∀ (k : Nat) (lo : Int) (x : Option D), -1000000 ≤ lo → lo + k ≤ 1000000 → ∃ ρ', forW (fun _ => True) bd (rangeD lo k) [some (rowD st a), some (rowD st b), some (.int l0), some (.int r), x] = ret (match fwf st (b - a) r k lo with
      | some n => .rt (.int n)
      | none => .nx ρ')
  | 0, lo, x, h1, h2 => ⟨_, by
    rw [rangeD_zero, forW, chk_true, fwf]⟩
  | k + 1, lo, x, h1, h2 => by
    obtain ⟨ρ', ih⟩ := x_fw_loop (r := r) (l0 := l0) hs bd hbd k (lo + 1) (some (.int lo)) (by omega) (by omega)
    have hl : Sml lo := ⟨h1, by omega⟩
    refine ⟨ρ', ?_⟩
    have hb : bd (.int lo) [some (rowD st a), some (rowD st b), some (.int l0), some (.int r), x] = _ := (congrFun (congrFun hbd _) _).trans (x_fw_body x hs hl)
    rw [rangeD_succ, forW, chk_true, hb, bnd_ret, fwf]
    by_cases hn : nearP st (b - a) r lo = true
    · rw [if_pos hn, if_pos hn]
      rfl
    · rw [if_neg hn, if_neg hn]
      exact ih
theorem x_free {st a b r l0 : Int} (hs : Sml st) (h0 : 0 ≤ l0) (h1 : l0 ≤ 1) : m_free_winding [rowD st a, rowD st b, .int l0, .int r] = ret (fwD (fwf st (b - a) r (208 - l0).toNat l0)) := by
  obtain ⟨ρ', e⟩ := x_fw_loop (a := a) (b := b) (r := r) (l0 := l0) hs _ rfl (208 - l0).toNat l0 none (by omega) (by omega)
  have hr : oRng2 (.int l0) (.int 208) = ret ⟨rangeD l0 (208 - l0).toNat, fun _ => True⟩ := if_pos ⟨by omega, by omega, by omega, by omega⟩
  refine frm_pure rfl ?_ ?_
  · have hw : (dRng2 (dVar 2) (dBin oAdd (dC (.int 207)) (dC (.int 1)))) (startD 5 [rowD st a, rowD st b, .int l0, .int r]) = ret ⟨rangeD l0 (208 - l0).toNat, fun _ => True⟩ := by
      simp [dRng2, hr]
    unfold b_free_winding
    rw [k_seq, k_for hw (m := _) e]
    cases fwf st (b - a) r (208 - l0).toNat l0 <;> simp [fwD]
  · cases fwf st (b - a) r (208 - l0).toNat l0 <;> simp [fwD, noRef]
end DS.Lw
namespace DS.Lw
open PySem L2 PySem.Spec PyProof.Rows
theorem nf1 : (("references" : Str) = "own_reach") = False := eq_false (by decide +kernel)
theorem nf2 : (("references" : Str) = "classes") = False := eq_false (by decide +kernel)
theorem nf3 : (("references" : Str) = "all_links") = False := eq_false (by decide +kernel)
theorem nf4 : (("references" : Str) = "least") = False := eq_false (by decide +kernel)
theorem nf5 : (("references" : Str) = "free") = False := eq_false (by decide +kernel)
theorem nf6 : (("own_reach" : Str) = "references") = False := eq_false (by decide +kernel)
theorem nf7 : (("own_reach" : Str) = "classes") = False := eq_false (by decide +kernel)
theorem nf8 : (("own_reach" : Str) = "all_links") = False := eq_false (by decide +kernel)
theorem nf9 : (("own_reach" : Str) = "least") = False := eq_false (by decide +kernel)
theorem nf10 : (("own_reach" : Str) = "free") = False := eq_false (by decide +kernel)
theorem nf11 : (("classes" : Str) = "references") = False := eq_false (by decide +kernel)
theorem nf12 : (("classes" : Str) = "own_reach") = False := eq_false (by decide +kernel)
theorem nf13 : (("classes" : Str) = "all_links") = False := eq_false (by decide +kernel)
theorem nf14 : (("classes" : Str) = "least") = False := eq_false (by decide +kernel)
theorem nf15 : (("classes" : Str) = "free") = False := eq_false (by decide +kernel)
theorem nf16 : (("all_links" : Str) = "references") = False := eq_false (by decide +kernel)
theorem nf17 : (("all_links" : Str) = "own_reach") = False := eq_false (by decide +kernel)
theorem nf18 : (("all_links" : Str) = "classes") = False := eq_false (by decide +kernel)
theorem nf19 : (("all_links" : Str) = "least") = False := eq_false (by decide +kernel)
theorem nf20 : (("all_links" : Str) = "free") = False := eq_false (by decide +kernel)
theorem nf21 : (("least" : Str) = "references") = False := eq_false (by decide +kernel)
theorem nf22 : (("least" : Str) = "own_reach") = False := eq_false (by decide +kernel)
theorem nf23 : (("least" : Str) = "classes") = False := eq_false (by decide +kernel)
theorem nf24 : (("least" : Str) = "all_links") = False := eq_false (by decide +kernel)
theorem nf25 : (("least" : Str) = "free") = False := eq_false (by decide +kernel)
theorem nf26 : (("free" : Str) = "references") = False := eq_false (by decide +kernel)
theorem nf27 : (("free" : Str) = "own_reach") = False := eq_false (by decide +kernel)
theorem nf28 : (("free" : Str) = "classes") = False := eq_false (by decide +kernel)
theorem nf29 : (("free" : Str) = "all_links") = False := eq_false (by decide +kernel)
theorem nf30 : (("free" : Str) = "least") = False := eq_false (by decide +kernel)
theorem nf31 : (("classes_found" : Str) = "references") = False := eq_false (by decide +kernel)
theorem nf32 : (("classes_found" : Str) = "own_reach") = False := eq_false (by decide +kernel)
theorem nf33 : (("classes_found" : Str) = "classes") = False := eq_false (by decide +kernel)
theorem nf34 : (("classes_found" : Str) = "all_links") = False := eq_false (by decide +kernel)
theorem nf35 : (("classes_found" : Str) = "least") = False := eq_false (by decide +kernel)
theorem nf36 : (("classes_found" : Str) = "free") = False := eq_false (by decide +kernel)
theorem nf37 : (("told" : Str) = "references") = False := eq_false (by decide +kernel)
theorem nf38 : (("told" : Str) = "own_reach") = False := eq_false (by decide +kernel)
theorem nf39 : (("told" : Str) = "classes") = False := eq_false (by decide +kernel)
theorem nf40 : (("told" : Str) = "all_links") = False := eq_false (by decide +kernel)
theorem nf41 : (("told" : Str) = "least") = False := eq_false (by decide +kernel)
theorem nf42 : (("told" : Str) = "free") = False := eq_false (by decide +kernel)
theorem nf43 : (("way" : Str) = "references") = False := eq_false (by decide +kernel)
theorem nf44 : (("way" : Str) = "own_reach") = False := eq_false (by decide +kernel)
theorem nf45 : (("way" : Str) = "classes") = False := eq_false (by decide +kernel)
theorem nf46 : (("way" : Str) = "all_links") = False := eq_false (by decide +kernel)
theorem nf47 : (("way" : Str) = "least") = False := eq_false (by decide +kernel)
theorem nf48 : (("way" : Str) = "free") = False := eq_false (by decide +kernel)
abbrev Q00 : D := .tup [.int 0, .int 0]
abbrev Q01 : D := .tup [.int 0, .int 1]
abbrev Q10 : D := .tup [.int 1, .int 0]
abbrev Q11 : D := .tup [.int 1, .int 1]
theorem sort4 : oSorted [.lst [Q00, Q01, Q10, Q11]] = ret (.lst [Q00, Q01, Q10, Q11]) := by
  have e : toPys [Q00, Q01, Q10, Q11] = some [(Q00, .tuple [.int 0, .int 0]), (Q01, .tuple [.int 0, .int 1]), (Q10, .tuple [.int 1, .int 0]), (Q11, .tuple [.int 1, .int 1])] := by
    simp [toPys, toPy, toPyL]
  unfold oSorted
  dsimp only
  rw [e]
  dsimp only
  rw [if_pos]
  · rw [List.mergeSort_of_pairwise]
    · rfl
    · have h : ∀ a b c d : Int, a ≤ 1 → PySem.W.dataLe false (fun (p : D × PyData) => p.2) (.non, .tuple [.int a, .int b]) (.non, .tuple [.int c, .int d]) = PySem.W.dataLe false (fun (p : D × PyData) => p.2) (.non, .tuple [.int a, .int b]) (.non, .tuple [.int c, .int d]) := fun _ _ _ _ _ => rfl
      have g : ∀ x y p q, PySem.W.dataLe false (fun (p : D × PyData) => p.2) (x, p) (y, q) = PySem.W.dataLe false (fun (p : PyData) => p) p q := fun _ _ _ _ => rfl
      simp only [List.pairwise_cons, List.mem_cons, List.not_mem_nil, forall_eq_or_imp, g]
      refine ⟨⟨by decide +kernel, by decide +kernel, by decide +kernel, fun _ h => h.elim⟩, ⟨by decide +kernel, by decide +kernel, fun _ h => h.elim⟩, ⟨by decide +kernel, fun _ h => h.elim⟩, ⟨fun _ h => h.elim, List.Pairwise.nil⟩⟩
  · refine ⟨?_, ?_, by decide, ?_⟩
    · simp [PySem.W.AllAlike, PySem.W.alike, PySem.W.alikeAll]
    · simp [PySem.W.Sortable]
    · simp [PyData.depth, PyData.depthAll]
end DS.Lw
namespace DS.Lw
open PySem L2 PySem.Spec PyProof.Rows
abbrev fwV (st df r l0 : Int) : D := fwD (fwf st df r (208 - l0).toNat l0)
theorem fwV_noRef (o : Option Int) : noRef (fwD o) = true := by cases o <;> simp [fwD, noRef]
abbrev keys4 : List (List Key) := [[.inl 0, .inl 0], [.inl 0, .inl 1], [.inl 1, .inl 0], [.inl 1, .inl 1]]
abbrev frees (st a b r : Int) : List D := [fwV st (a - a) r 1, fwV st (b - a) r 0, fwV st (a - b) r 1, fwV st (b - b) r 1]
abbrev lnames : List Str := ["references", "own_reach", "classes", "all_links", "least", "free"]
abbrev lvals (st a b r : Int) (f : D) : List D := [refsD st a b, .int r, .lst [Q01], .lst [Q00, Q01, Q10, Q11], .dT keys4 [.int 1, .int 0, .int 1, .int 1], f]
abbrev linksD (st a b r : Int) : D := .ins "Links" lnames (lvals st a b r (.dT keys4 (frees st a b r)))
theorem k_ix_dT {ks : List (List Key)} {vs : List D} {y : D} : oIxG (.dT ks vs) y = match dctGet (.dT ks vs) y with
  | some (some d) => ret d
  | _ => stuck := by cases y <;> rfl
theorem k_gsub {f g : En → M D} {t : D → D → D → M Unit} {v : D} {ρ : En} : gdSub f g t v ρ = bnd (f ρ) fun x => bnd (g ρ) fun y => bnd (t x y v) fun _ => ret ρ := rfl
theorem x_found2 {bs : List Nat} {objs : List D} {st a b r : Int} : m_Links_classes_found [.ref objs.length] ⟨bs, objs ++ [.ins "Links" ["references", "own_reach"] [refsD st a b, .int r]]⟩ = some (.ok (.lst [Q01]), ⟨bs, objs ++ [.ins "Links" ["references", "own_reach"] [refsD st a b, .int r]]⟩) :=
  x_found (step := st) (one := a) (two := b) (ns := ["references", "own_reach"]) (vs := [refsD st a b, .int r]) (by simp) (by simp) (by simp [getF])
theorem x_init (nn rows : D) (st a b r : Int) (hs : Sml st) : makeF "Links" m_Links_init [.tup [nn, rows, bodyD st a b], .int 0, .int r] = ret (linksD st a b r) := by
  funext s
  refine makeF_run (own := [.ins "Links" lnames (lvals st a b r (.ref (s.objs.length + 1))), .dT keys4 (frees st a b r)]) ?_ ?_
  · refine frmK_run (fl := .nx [some (.ref s.objs.length), some (.tup [nn, rows, bodyD st a b]), some (.int 0), some (.int r), none, some (rowD st b), some (rowD st b), some Q11, none]) (d := .non) rfl ?_ rfl
    simp [b_Links_init, k_bnd, k_mk, k_ret_s, CAP, dFldS, stF, k_look, put, headOk, isLck, putFn, putFv, own_get0, own_set0, dMeth, chkI, x_refs_of, x_found2, oFld, getF, dUn, look, dComp, cCl, cLoop, noEr, dItS, oWalk, chk_true, wipeD, emL, sort4, emD, dctPut, dctGet, keyT, keysOf, keyK, dget, dputK, dputV, dNewT, dFor, forW, loopS, atI, ixN, stG, x_free hs, k_ix_dT, k_gsub, nf1, nf2, nf3, nf4, nf5, nf6, nf7, nf8, nf9, nf10, nf11, nf12, nf13, nf14, nf15, nf16, nf17, nf18, nf19, nf20, nf21, nf22, nf23, nf24, nf25, nf26, nf27, nf28, nf29, nf30, nf31, nf32, nf33, nf34, nf35, nf36, nf37, nf38, nf39, nf40, nf41, nf42, nf43, nf44, nf45, nf46, nf47, nf48]
    exact ⟨rfl, rfl, rfl, rfl⟩
  · have e1 : frzN s.objs.length (s.objs ++ [.ins "Links" lnames (lvals st a b r (.ref (s.objs.length + 1))), .dT keys4 (frees st a b r)]) 8 (s.objs.length + 1) = some (.dT keys4 (frees st a b r)) := by
      rw [frzN, if_neg (by omega), own_get (k := 1)]
      exact sub_noRef _ _ (by simp [noRef, noRefL, fwV_noRef])
    refine fz_ref (k := 0) (x := .ins "Links" lnames (lvals st a b r (.ref (s.objs.length + 1)))) (by simp) ?_
    simp only [sub, subL]
    rw [e1]
    simp
end DS.Lw
namespace DS.Lw
open PySem L2 PySem.Spec PyProof.Rows
theorem Ok.sml {st a b : Int} (h : Ok st a b) : Sml st := by
  obtain ⟨h1, _⟩ := h
  unfold Sml
  omega
theorem x_classes {st a b : Int} (h : Ok st a b) : m_classes [bareD st a b, .int 0] = ret (.tup [Q01]) := by
  refine frm_pure rfl ?_ (by simp [noRef, noRefL])
  simp [b_classes, x_check_bare h, x_check_loop, dMake, x_init _ _ _ _ _ _ h.sml, oFld, getF, dUn, nf1, nf2, nf3, nf4, nf5, nf6, nf7, nf8, nf9, nf10, nf11, nf12, nf13, nf14, nf15, nf16, nf17, nf18, nf19, nf20, nf21, nf22, nf23, nf24, nf25, nf26, nf27, nf28, nf29, nf30, nf31, nf32, nf33, nf34, nf35, nf36, nf37, nf38, nf39, nf40, nf41, nf42, nf43, nf44, nf45, nf46, nf47, nf48]
abbrev toldD (st a b r : Int) : D := .tup [.tup [.int 0, .int 0, .int 1, fwV st (a - a) r 1], .tup [.int 0, .int 1, .int 0, fwV st (b - a) r 0], .tup [.int 1, .int 0, .int 1, fwV st (a - b) r 1], .tup [.int 1, .int 1, .int 1, fwV st (b - b) r 1]]
theorem x_told (st a b r : Int) : m_Links_told [linksD st a b r] = ret (toldD st a b r) := by
  refine frm_pure rfl ?_ (by simp [noRef, noRefL, fwV_noRef])
  simp [toldD, b_Links_told, oFld, getF, dComp, cLoop, noEr, dItS, oWalk, chk_true, wipeD, emL, CAP, k_ix_dT, dctGet, keyT, keysOf, keyK, dget, nf1, nf2, nf3, nf4, nf5, nf6, nf7, nf8, nf9, nf10, nf11, nf12, nf13, nf14, nf15, nf16, nf17, nf18, nf19, nf20, nf21, nf22, nf23, nf24, nf25, nf26, nf27, nf28, nf29, nf30, nf31, nf32, nf33, nf34, nf35, nf36, nf37, nf38, nf39, nf40, nf41, nf42, nf43, nf44, nf45, nf46, nf47, nf48]
theorem x_links {st a b r : Int} (h : Ok st a b) (hr : 0 ≤ r ∧ r ≤ 9) : m_links [bareD st a b, .int 0, .int r] = ret (toldD st a b r) := by
  refine frm_pure rfl ?_ (by simp [noRef, noRefL, fwV_noRef])
  simp [b_links, x_check_bare h, x_check_loop, x_check_reach hr, dMake, x_init _ _ _ _ _ _ h.sml, dMeth, chkI, x_told, nf1, nf2, nf3, nf4, nf5, nf6, nf7, nf8, nf9, nf10, nf11, nf12, nf13, nf14, nf15, nf16, nf17, nf18, nf19, nf20, nf21, nf22, nf23, nf24, nf25, nf26, nf27, nf28, nf29, nf30, nf31, nf32, nf33, nf34, nf35, nf36, nf37, nf38, nf39, nf40, nf41, nf42, nf43, nf44, nf45, nf46, nf47, nf48]
def atQ (p : Bool) (a b : Int) : Int := if p = true then b else a
abbrev qI (p : Bool) : Int := if p = true then 1 else 0
def least (p q : Bool) : Int := if q = true ∧ p = false then 0 else 1
theorem qI_cases (p : Bool) : qI p = 0 ∨ qI p = 1 := by cases p <;> simp [qI]
theorem x_pair (x y : Int) : m_is_pair [.tup [.int x, .int y]] = ret (.bl true) := by
  refine frm_pure rfl ?_ (by simp [noRef])
  simp [b_is_pair, dComp, cLoop, noEr, dItS, oWalk, chk_true, wipeD, emL, CAP]
theorem k_in_dT {ks : List (List Key)} {vs : List D} {xs : List D} : oInG false (.tup xs) (.dT ks vs) = match dctGet (.dT ks vs) (.tup xs) with
  | some o => ret (.bl o.isSome)
  | none => stuck := rfl
theorem x_is_link (p q : Bool) (st a b r : Int) : m_is_link [linksD st a b r, .tup [.int (qI p), .int (qI q)]] = ret (.bl true) := by
  refine frm_pure rfl ?_ (by simp [noRef])
  cases p <;> cases q <;> simp [b_is_link, x_pair, oFld, getF, k_in_dT, dctGet, keyT, keysOf, keyK, dget, nf1, nf2, nf3, nf4, nf5, nf6, nf7, nf8, nf9, nf10, nf11, nf12, nf13, nf14, nf15, nf16, nf17, nf18, nf19, nf20, nf21, nf22, nf23, nf24, nf25, nf26, nf27, nf28, nf29, nf30, nf31, nf32, nf33, nf34, nf35, nf36, nf37, nf38, nf39, nf40, nf41, nf42, nf43, nf44, nf45, nf46, nf47, nf48]
theorem x_check_link (p q : Bool) (st a b r : Int) : m_check_link [linksD st a b r, .tup [.int (qI p), .int (qI q)]] = ret .non := by
  refine frm_pureN (ρ := [some (linksD st a b r), some (.tup [.int (qI p), .int (qI q)])]) rfl ?_
  simp only [b_check_link, k_ifs, k_tnot, k_tst, k_call, k_cons, k_nil, k_start, List.map, bnd_ret, k_var0, k_vars, List.append_nil, List.cons_append, List.nil_append, x_is_link]
  simp
theorem x_link_way (p q : Bool) {st a b r n : Int} (hs : Sml st) (hn : Sml n) : m_Links_way [linksD st a b r, .tup [.int (qI p), .int (qI q)], .int n] = ret (.int (st * n + (atQ q a b - atQ p a b))) := by
  refine frm_pure rfl ?_ (by simp [noRef])
  cases p <;> cases q <;> simp [b_Links_way, oFld, getF, dComp, cLoop, noEr, dItS, oWalk, chk_true, wipeD, emL, CAP, atI, ixN, x_way hs hn, atQ, qI, nf1, nf2, nf3, nf4, nf5, nf6, nf7, nf8, nf9, nf10, nf11, nf12, nf13, nf14, nf15, nf16, nf17, nf18, nf19, nf20, nf21, nf22, nf23, nf24, nf25, nf26, nf27, nf28, nf29, nf30, nf31, nf32, nf33, nf34, nf35, nf36, nf37, nf38, nf39, nf40, nf41, nf42, nf43, nf44, nf45, nf46, nf47, nf48]
theorem x_walk (p q : Bool) {st a b n : Int} (h : Ok st a b) (h1 : least p q ≤ n) (h2 : n ≤ 1000) : m_walk_by [bareD st a b, .int 0, .tup [.int (qI p), .int (qI q)], .int n] = ret (.int (st * n + (atQ q a b - atQ p a b))) := by
  have h0 : 0 ≤ least p q := by unfold least; split <;> omega
  have hn : Sml n := ⟨by omega, by omega⟩
  refine frm_pure rfl ?_ (by simp [noRef])
  have hl : oIxG (.dT keys4 [.int 1, .int 0, .int 1, .int 1]) (.tup [.int (qI p), .int (qI q)]) = ret (.int (least p q)) := by
    cases p <;> cases q <;> simp [k_ix_dT, dctGet, keyT, keysOf, keyK, dget, least]
  simp [b_walk_by, x_check_bare h, x_check_loop, dMake, x_init _ _ _ _ _ _ h.sml, x_check_link, oFld, getF, hl, h1, h2, dMeth, chkI, x_link_way p q h.sml hn, nf1, nf2, nf3, nf4, nf5, nf6, nf7, nf8, nf9, nf10, nf11, nf12, nf13, nf14, nf15, nf16, nf17, nf18, nf19, nf20, nf21, nf22, nf23, nf24, nf25, nf26, nf27, nf28, nf29, nf30, nf31, nf32, nf33, nf34, nf35, nf36, nf37, nf38, nf39, nf40, nf41, nf42, nf43, nf44, nf45, nf46, nf47, nf48]
end DS.Lw
namespace DS.Lw
open PySem L2 PySem.Spec PyProof.Rows
theorem k_add_t {xs ys : List D} : oAdd (.tup xs) (.tup ys) = if xs.length + ys.length ≤ CAP then ret (.tup (xs ++ ys)) else stuck := rfl
theorem inner_ne (st a b : Int) : eqB (innerD st a b) (.tup []) = some false := eq_tup_nil _ _ _ _ rfl rfl (by simp [SeqAt.shaped, PyData.canLay0, PyData.canLayAll0, PyData.depth, PyData.depthAll, so3, so4])
theorem x_bare (st a b : Int) : m__law_bare_with [.lst [.lst [rowD st a, rowD st b]], .int 2] = ret (bareD st a b) := by
  refine frm_pure rfl ?_ (by simp [noRef, noRefL])
  simp [b__law_bare_with, dFor, dItS, dItE, oWalk, enumW, enumD, forW, chk_true, loopS, CAP, k_mod, atI, ixN, k_add_t, oNe, inner_ne]
end DS.Lw
namespace DS.Lw
open PySem L2 PySem.Spec PyProof.Rows
def szI (st : Int) : Int := if st < 0 then -st else st
def dfI (st df : Int) : Int := if 0 < st then df else -df
def nI (st df l r : Int) : Int := if -((dfI st df + r) / szI st) > l then -((dfI st df + r) / szI st) else l
def fby (st df l r : Int) : Option Int := if st = 0 then (if -r ≤ df ∧ df ≤ r then some l else none) else if szI st * nI st df l r + dfI st df ≤ r then some (nI st df l r) else none
theorem fwf_some {st df r n : Int} : ∀ {k : Nat} {lo : Int}, lo ≤ n → n < lo + k → nearP st df r n = true → (∀ m, lo ≤ m → m < n → nearP st df r m = false) → fwf st df r k lo = some n
  | 0, lo, h1, h2, _, _ => by omega
  | k + 1, lo, h1, h2, h3, h4 => by
    rw [fwf]
    by_cases e : lo = n
    · rw [e, if_pos h3]
    · rw [h4 lo (by omega) (by omega), if_neg (by decide)]
      exact fwf_some (by omega) (by omega) h3 fun m a b => h4 m (by omega) b
theorem fwf_none {st df r : Int} : ∀ {k : Nat} {lo : Int}, (∀ m, lo ≤ m → m < lo + k → nearP st df r m = false) → fwf st df r k lo = none
  | 0, lo, _ => rfl
  | k + 1, lo, h => by
    rw [fwf, h lo (by omega) (by omega), if_neg (by decide)]
    exact fwf_none fun m a b => h m (by omega) (by omega)
theorem stCases {st : Int} (h : -9 ≤ st ∧ st ≤ 9) : st = -9 ∨ st = -8 ∨ st = -7 ∨ st = -6 ∨ st = -5 ∨ st = -4 ∨ st = -3 ∨ st = -2 ∨ st = -1 ∨ st = 0 ∨ st = 1 ∨ st = 2 ∨ st = 3 ∨ st = 4 ∨ st = 5 ∨ st = 6 ∨ st = 7 ∨ st = 8 ∨ st = 9 := by omega
theorem nI_bds {st df l r : Int} (h : -9 ≤ st ∧ st ≤ 9) (hd : -198 ≤ df ∧ df ≤ 198) (hl : 0 ≤ l ∧ l ≤ 1) (hr : 0 ≤ r ∧ r ≤ 9) (h0 : st ≠ 0) : l ≤ nI st df l r ∧ nI st df l r ≤ 198 := by
  unfold nI dfI szI
  rcases stCases h with rfl|rfl|rfl|rfl|rfl|rfl|rfl|rfl|rfl|rfl|rfl|rfl|rfl|rfl|rfl|rfl|rfl|rfl|rfl <;> simp at h0 <;> simp <;> split <;> omega
theorem fby_fwf {st df l r : Int} (h : -9 ≤ st ∧ st ≤ 9) (hd : -198 ≤ df ∧ df ≤ 198) (hl : 0 ≤ l ∧ l ≤ 1) (hr : 0 ≤ r ∧ r ≤ 9) : fwf st df r (208 - l).toNat l = fby st df l r := by
  have hk : ((208 - l).toNat : Int) = 208 - l := by omega
  by_cases h0 : st = 0
  · subst h0
    unfold fby
    rw [if_pos rfl]
    by_cases hn : -r ≤ df ∧ df ≤ r
    · rw [if_pos hn]
      exact fwf_some (by omega) (by omega) (by simp [nearP, hn]) fun m a b => by omega
    · rw [if_neg hn]
      exact fwf_none fun m a b => by simpa [nearP] using hn
  · obtain ⟨b1, b2⟩ := nI_bds h hd hl hr h0
    unfold fby
    rw [if_neg h0]
    have low : ∀ m, l ≤ m → m < nI st df l r → nearP st df r m = false := by
      unfold nI dfI szI nearP
      intro m h1 h2
      rw [decide_eq_false_iff_not]
      rcases stCases h with rfl|rfl|rfl|rfl|rfl|rfl|rfl|rfl|rfl|rfl|rfl|rfl|rfl|rfl|rfl|rfl|rfl|rfl|rfl <;> simp at h0 <;> simp at h2 <;> split at h2 <;> omega
    by_cases hn : szI st * nI st df l r + dfI st df ≤ r
    · rw [if_pos hn]
      refine fwf_some b1 (by omega) ?_ low
      unfold nI dfI szI at hn
      unfold nI dfI szI nearP
      rw [decide_eq_true_iff]
      rcases stCases h with rfl|rfl|rfl|rfl|rfl|rfl|rfl|rfl|rfl|rfl|rfl|rfl|rfl|rfl|rfl|rfl|rfl|rfl|rfl <;> simp at h0 <;> simp at hn <;> simp <;> split at hn <;> split <;> omega
    · rw [if_neg hn]
      refine fwf_none fun m h1 h2 => ?_
      by_cases h3 : m < nI st df l r
      · exact low m h1 h3
      · unfold nI dfI szI at hn h3
        unfold nearP
        rw [decide_eq_false_iff_not]
        rcases stCases h with rfl|rfl|rfl|rfl|rfl|rfl|rfl|rfl|rfl|rfl|rfl|rfl|rfl|rfl|rfl|rfl|rfl|rfl|rfl <;> simp at h0 <;> simp at hn <;> simp at h3 <;> split at hn <;> split at h3 <;> omega
end DS.Lw
namespace DS.Lw
open PySem L2 PySem.Spec PyProof.Rows
theorem x_free_by {st df l r : Int} (h : -9 ≤ st ∧ st ≤ 9) (hd : -198 ≤ df ∧ df ≤ 198) (hl : 0 ≤ l ∧ l ≤ 1) (hr : 0 ≤ r ∧ r ≤ 9) : m__law_free_by [.int st, .int df, .int l, .int r] = ret (fwD (fby st df l r)) := by
  refine frm_pure rfl ?_ (fwV_noRef _)
  by_cases h0 : st = 0
  · subst h0
    simp [b__law_free_by, fby]
    by_cases c1 : -r ≤ df
    · by_cases c2 : df ≤ r <;> simp [c1, c2, fwD]
    · simp [c1, fwD]
  · obtain ⟨b1, b2⟩ := nI_bds h hd hl hr h0
    have hz : 0 < szI st ∧ szI st ≤ 9 := by
      unfold szI
      split <;> omega
    have hm : CMul (szI st) (nI st df l r) := cmul_sml ⟨by omega, by omega⟩ ⟨by omega, by omega⟩
    have hf : oFdv (.int (dfI st df + r)) (.int (szI st)) = ret (.int ((dfI st df + r) / szI st)) := k_fdv hz.1 (by omega)
    have hmm : oMul (.int (szI st)) (.int (nI st df l r)) = ret (.int (szI st * nI st df l r)) := k_mul hm
    have e1 : (if st < 0 then -st else st) = szI st := rfl
    have e2 : (if 0 < st then ret (.int df) else ret (.int (-df)) : M D) = ret (.int (dfI st df)) := by
      unfold dfI
      split <;> rfl
    have e3 : (if -((dfI st df + r) / szI st) > l then -((dfI st df + r) / szI st) else l) = nI st df l r := rfl
    have e3' : (if l < -((dfI st df + r) / szI st) then -((dfI st df + r) / szI st) else l) = nI st df l r := rfl
    simp only [b__law_free_by, k_seq, k_ifs, k_tst, k_bin, k_start, List.map, k_var0, k_vars, k_c, bnd_ret, k_eq_i, k_isB, beq_iff_eq, h0, if_false, k_next, k_then_nx, k_par, k_cons, k_nil, k_cb, k_abs, k_if, k_gt, decide_eq_true_eq, List.cons_append, List.nil_append, List.length_cons, List.length_nil, Nat.reduceSub, List.replicate, e1, k_un, k_neg, e2, List.set, k_set, k_add, hf, k_max, e3, e3', k_ret, hmm, k_le]
    unfold fby
    rw [if_neg h0]
    split <;> rfl
end DS.Lw
namespace DS.Lw
open PySem L2 PySem.Spec PyProof.Rows
theorem frm_run2 {n N : Nat} {b : En → M Fl} {ds objs' own : List D} {s : S} {fl : Fl} {d : D} (hl : ds.length = n) (hb : b (startD N ds) ⟨s.objs.length :: s.bases, s.objs⟩ = some (.ok fl, ⟨s.objs.length :: s.bases, objs' ++ own⟩)) (hn : objs'.length = s.objs.length) (he : endV fl = some d) (hd : noRef d = true) : frmF n N b ds s = some (.ok d, ⟨s.bases, objs'⟩) := by
  unfold frmF
  rw [if_pos hl, hb]
  dsimp only
  rw [he]
  dsimp only
  rw [if_pos rfl, fz_noRef hd]
  dsimp only
  rw [← hn, List.take_left]
theorem x_same {d : D} {p : PyData} (h : toPy d = some p) (hp : plainP p = true) (hw : widP p ≤ CAP) (hd : p.depth ≤ 40) (hs : isSeqD d = true) : m__law_same [d, d] = ret (.bl true) := by
  refine frm_pure rfl ?_ (by simp [noRef])
  simp [b__law_same, k_repr h hp hw hd hs, k_same_repr hp]
abbrev pailD (x y z : Int) : D := .lst [.int x, .int y, .int z]
def setA (s : S) (a : Nat) (d : D) : S := ⟨s.bases, s.objs.set a d⟩
theorem x_deal {s : S} {a : Nat} {x y z top : Int} (ha : s.objs[a]? = some (pailD x y z)) (h1 : 0 < top) (h2 : top < 1073741824) :
    ∃ v x' y' z', (0 ≤ v ∧ v < top) ∧ m__law_deal [.ref a, .int top] s = some (.ok (.int v), setA s a (pailD x' y' z')) := by
  have hl : a < s.objs.length := (List.getElem?_eq_some_iff.mp ha).1
  have el : s.objs[a] = pailD x y z := (List.getElem?_eq_some_iff.mp ha).2
  by_cases h0 : 0 < x
  · refine ⟨x % top, x / top, y, z, ⟨Int.emod_nonneg _ (by omega), Int.emod_lt_of_pos _ h1⟩, ?_⟩
    refine frm_run2 (fl := .rt (.int (x % top))) (own := []) rfl ?_ (by simp) rfl (by simp [noRef])
    simp [b__law_deal, k_bnd, k_ret_s, oIxG, k_look, ha, hl, el, look, atI, ixN, h0, k_divmod h1 h2, gdSub, stG, put, headOk, noRef, noRefL, isLck]
  · let z' := z + 1
    let w := (y * 15511 + 11903 * z') % 2147483423
    let y' := (w * (w % 5147 + 30011) + 31 * z') % 2147483423
    have hm : ∀ w : Int, oMul (.int w) (.int (w % 5147 + 30011)) = ret (.int (w * (w % 5147 + 30011))) := fun w => by
      have := Int.emod_nonneg w (b := 5147) (by decide)
      have := Int.emod_lt_of_pos w (b := 5147) (by decide)
      exact k_mul (.inr ⟨by omega, by omega⟩)
    have hm1 : ∀ u : Int, oMul (.int u) (.int 15511) = ret (.int (u * 15511)) := fun u => k_mul (.inr (by decide))
    have hm2 : ∀ u : Int, oMul (.int 11903) (.int u) = ret (.int (11903 * u)) := fun u => k_mul (.inl (by decide))
    have hm3 : ∀ u : Int, oMul (.int 31) (.int u) = ret (.int (31 * u)) := fun u => k_mul (.inl (by decide))
    have hf : ∀ u : Int, oFdv (.int u) (.int 349) = ret (.int (u / 349)) := fun u => k_fdv (by decide) (by decide)
    refine ⟨y' / 349 % top, x, y', z', ⟨Int.emod_nonneg _ (by omega), Int.emod_lt_of_pos _ h1⟩, ?_⟩
    refine frm_run2 (fl := .rt (.int (y' / 349 % top))) (own := []) rfl ?_ (by simp) rfl (by simp [noRef])
    simp [b__law_deal, k_bnd, k_ret_s, oIxG, k_look, ha, hl, el, look, atI, ixN, h0, gdSub, stG, put, headOk, noRef, noRefL, isLck, hm, hm1, hm2, hm3, hf, k_mod, h1]
    exact ⟨rfl, rfl⟩
theorem x_any {s : S} {a : Nat} {x y z : Int} {ds : List D} (ha : s.objs[a]? = some (pailD x y z)) (h1 : 0 < ds.length) (h2 : ds.length < 1000000) (hn : ∀ d ∈ ds, noRef d = true) :
    ∃ d x' y' z', d ∈ ds ∧ m__law_any [.ref a, .lst ds] s = some (.ok d, setA s a (pailD x' y' z')) := by
  obtain ⟨v, x', y', z', ⟨v1, v2⟩, e⟩ := x_deal (s := ⟨s.objs.length :: s.bases, s.objs⟩) (top := (ds.length : Int)) ha (by omega) (by omega)
  have hv : v.toNat < ds.length := by omega
  have ei : atI ds v = some ds[v.toNat] := by
    have h3 : ixN ds.length v = some v.toNat := by
      unfold ixN
      rw [if_pos v1, if_pos v2]
    unfold atI
    rw [h3]
    show ds[v.toNat]? = _
    rw [List.getElem?_eq_getElem hv]
  refine ⟨ds[v.toNat], x', y', z', List.getElem_mem hv, ?_⟩
  refine frm_run2 (fl := .rt ds[v.toNat]) (own := []) (objs' := s.objs.set a (pailD x' y' z')) rfl ?_ (by simp) rfl (hn _ (List.getElem_mem hv))
  simp only [b__law_any, k_ret, k_bin, k_call, k_cons, k_nil, k_cb, k_start, List.map, k_var0, k_vars, bnd_ret, k_len_l, List.append_nil, k_bnd, e, setA]
  simp [k_ret_s, k_bnd, e, setA, ei]
end DS.Lw
namespace DS.Lw
open PySem L2 PySem.Spec PyProof.Rows
theorem fby_fwfK {st df l r : Int} (h : -9 ≤ st ∧ st ≤ 9) (hd : -198 ≤ df ∧ df ≤ 198) (hl : 0 ≤ l ∧ l ≤ 1) (hr : 0 ≤ r ∧ r ≤ 9) {k : Nat} (hk : 208 - l ≤ (k : Int)) : fwf st df r k l = fby st df l r := by
  by_cases h0 : st = 0
  · subst h0
    unfold fby
    rw [if_pos rfl]
    by_cases hn : -r ≤ df ∧ df ≤ r
    · rw [if_pos hn]
      exact fwf_some (by omega) (by omega) (by simp [nearP, hn]) fun m a b => by omega
    · rw [if_neg hn]
      exact fwf_none fun m a b => by simpa [nearP] using hn
  · obtain ⟨b1, b2⟩ := nI_bds h hd hl hr h0
    unfold fby
    rw [if_neg h0]
    have low : ∀ m, l ≤ m → m < nI st df l r → nearP st df r m = false := by
      unfold nI dfI szI nearP
      intro m h1 h2
      rw [decide_eq_false_iff_not]
      rcases stCases h with rfl|rfl|rfl|rfl|rfl|rfl|rfl|rfl|rfl|rfl|rfl|rfl|rfl|rfl|rfl|rfl|rfl|rfl|rfl <;> simp at h0 <;> simp at h2 <;> split at h2 <;> omega
    by_cases hn : szI st * nI st df l r + dfI st df ≤ r
    · rw [if_pos hn]
      refine fwf_some b1 (by omega) ?_ low
      unfold nI dfI szI at hn
      unfold nI dfI szI nearP
      rw [decide_eq_true_iff]
      rcases stCases h with rfl|rfl|rfl|rfl|rfl|rfl|rfl|rfl|rfl|rfl|rfl|rfl|rfl|rfl|rfl|rfl|rfl|rfl|rfl <;> simp at h0 <;> simp at hn <;> simp <;> split at hn <;> split <;> omega
    · rw [if_neg hn]
      refine fwf_none fun m h1 h2 => ?_
      by_cases h3 : m < nI st df l r
      · exact low m h1 h3
      · unfold nI dfI szI at hn h3
        unfold nearP
        rw [decide_eq_false_iff_not]
        rcases stCases h with rfl|rfl|rfl|rfl|rfl|rfl|rfl|rfl|rfl|rfl|rfl|rfl|rfl|rfl|rfl|rfl|rfl|rfl|rfl <;> simp at h0 <;> simp at hn <;> simp at h3 <;> split at hn <;> split at h3 <;> omega


def fineL (st df r lo : Int) (k : Nat) : List Int := ((List.range k).map fun i => lo + ((i : Nat) : Int)).filter (nearP st df r)
theorem fineL_succ (st df r lo : Int) (k : Nat) : fineL st df r lo (k + 1) = if nearP st df r lo = true then lo :: fineL st df r (lo + 1) k else fineL st df r (lo + 1) k := by
  unfold fineL
  have e' : ((List.range (k + 1)).map fun i => (lo + ((i : Nat) : Int))) = lo :: ((List.range k).map fun i => (lo + 1 + ((i : Nat) : Int))) := by
    rw [List.range_succ_eq_map, List.map_cons, List.map_map]
    congr 1
    · simp
    · apply List.map_congr_left
      intro i _
      simp only [Function.comp]
      omega
  rw [e', List.filter_cons]
theorem fineL_head (st df r : Int) : ∀ (k : Nat) (lo : Int), (fineL st df r lo k).head? = fwf st df r k lo
  | 0, lo => rfl
  | k + 1, lo => by
    rw [fineL_succ, fwf]
    split
    · rfl
    · exact fineL_head st df r k (lo + 1)
theorem fineL_mem {st df r lo n : Int} {k : Nat} (h : n ∈ fineL st df r lo k) : lo ≤ n ∧ n < lo + k := by
  unfold fineL at h
  obtain ⟨h1, _⟩ := List.mem_filter.mp h
  obtain ⟨i, hi, rfl⟩ := List.mem_map.mp h1
  have := List.mem_range.mp hi
  omega
theorem fineL_len {st df r A B : Int} (h : ∀ n, nearP st df r n = true → A ≤ n ∧ n ≤ B) : ∀ (k : Nat) (lo : Int), ((fineL st df r lo k).length : Int) ≤ (if lo ≤ A then (if B + 1 - A ≤ 0 then 0 else B + 1 - A) else (if B + 1 - lo ≤ 0 then 0 else B + 1 - lo))
  | 0, lo => by
    show ((0 : Nat) : Int) ≤ _
    split <;> split <;> omega
  | k + 1, lo => by
    have ih := fineL_len h k (lo + 1)
    rw [fineL_succ]
    by_cases hn : nearP st df r lo = true
    · obtain ⟨h1, h2⟩ := h lo hn
      rw [if_pos hn, List.length_cons]
      split at ih <;> (try split at ih) <;> split <;> (try split) <;> omega
    · rw [if_neg hn]
      split at ih <;> (try split at ih) <;> split <;> (try split) <;> omega
theorem fineL_few {st df r lo : Int} {k : Nat} (h : -9 ≤ st ∧ st ≤ 9) (hr : 0 ≤ r) (h0 : st ≠ 0) : ((fineL st df r lo k).length : Int) ≤ 2 * r + 1 := by
  have hh : ∀ n, nearP st df r n = true → -((dfI st df + r) / szI st) ≤ n ∧ n ≤ (r - dfI st df) / szI st := by
    intro n hn
    unfold nearP at hn
    rw [decide_eq_true_iff] at hn
    unfold dfI szI
    rcases stCases h with rfl|rfl|rfl|rfl|rfl|rfl|rfl|rfl|rfl|rfl|rfl|rfl|rfl|rfl|rfl|rfl|rfl|rfl|rfl <;> simp at h0 <;> simp <;> omega
  have hb : (r - dfI st df) / szI st - -((dfI st df + r) / szI st) ≤ 2 * r := by
    unfold dfI szI
    rcases stCases h with rfl|rfl|rfl|rfl|rfl|rfl|rfl|rfl|rfl|rfl|rfl|rfl|rfl|rfl|rfl|rfl|rfl|rfl|rfl <;> simp at h0 <;> simp <;> omega
  have := fineL_len hh k lo
  split at this <;> (try split at this) <;> omega
end DS.Lw
namespace DS.Lw
open PySem L2 PySem.Spec PyProof.Rows
theorem ne_fw (o : Option Int) : oNe (fwD o) (fwD o) = ret (.bl false) := by
  cases o with
  | none =>
    unfold oNe eqB
    simp [fwD, toPy, SeqAt.shaped, PyData.canLay0, PyData.depth, PyData.eqv]
  | some n => simp [fwD]
theorem ne_refs (st a b : Int) : oNe (refsD st a b) (refsD st a b) = ret (.bl false) := by
  unfold oNe eqB
  simp [toPy, toPyL, SeqAt.shaped, PyData.canLay0, PyData.canLayAll0, PyData.depth, PyData.depthAll, PyData.eqv, PyData.eqvAll]
theorem ne_cls : oNe (.tup [Q01]) (.tup [Q01]) = ret (.bl false) := by
  unfold oNe eqB
  simp [toPy, toPyL, SeqAt.shaped, PyData.canLay0, PyData.canLayAll0, PyData.depth, PyData.depthAll, PyData.eqv, PyData.eqvAll]
abbrev foundD (p q : Bool) (st a b r : Int) : D := .tup [.int (qI p), .int (qI q), .int (least p q), fwD (fwf st (atQ q a b - atQ p a b) r (208 - least p q).toNat (least p q))]
theorem told_found (st a b r : Int) : toldD st a b r = .tup [foundD false false st a b r, foundD false true st a b r, foundD true false st a b r, foundD true true st a b r] := by
  simp [toldD, foundD, fwV, qI, least, atQ]
/-- what of the frame stays in the loop -/
def EnP (a : Nat) (L : Nat) (st one two r : Int) (ρ : En) : Prop := ∃ t : En, t.length = 8 ∧ ρ = [some (.ref a), some (.int st), some (.int one), some (.int two), some (.int r), some (.lst [rowD st one, rowD st two]), some (bareD st one two), some (toldD st one two r), some (.ref L)] ++ t
def InP (bs : List Nat) (objs own : List D) (a : Nat) (s : S) : Prop := ∃ x y z, s = ⟨bs, objs.set a (pailD x y z) ++ own⟩
end DS.Lw
namespace DS.Lw
open PySem L2 PySem.Spec PyProof.Rows
theorem at_rows (q : Bool) (st a b : Int) : atI [rowD st a, rowD st b] (qI q) = some (rowD st (atQ q a b)) := by
  cases q <;> simp [qI, atQ, atI, ixN]
theorem at_two (x y z : D) : atI [x, y, z] 2 = some z := by simp [atI, ixN]
theorem at_zero (x : D) (xs : List D) : atI (x :: xs) 0 = some x := by
  have h : (0 : Int) < (xs.length : Int) + 1 := by omega
  simp [atI, ixN, h]
theorem atQ_bds {q : Bool} {a b : Int} (h1 : -99 ≤ a ∧ a ≤ 99) (h2 : -99 ≤ b ∧ b ≤ 99) : -99 ≤ atQ q a b ∧ atQ q a b ≤ 99 := by
  cases q <;> simp [atQ] <;> omega
theorem least_bds (p q : Bool) : 0 ≤ least p q ∧ least p q ≤ 1 := by
  unfold least
  split <;> omega
/-- one turn of the last loop -/
theorem x_turn {bs : List Nat} {objs own : List D} {a L : Nat} {st one two r : Int} {p q : Bool} {x y z : Int} (ha : a < objs.length) (hk : Ok st one two) (hr : 0 ≤ r ∧ r ≤ 9) (t0 t1 t2 t3 t4 t5 t6 t7 : Option D) {c : En → M Fl}
    (hc : c = (dSeq (dSet 11 (dBin oSub (dBin oIxG (dBin oIxG (dVar 5) (dVar 10)) (dC (.int 2))) (dBin oIxG (dBin oIxG (dVar 5) (dVar 9)) (dC (.int 2)))))
    (dSeq (dSet 14 (dComp (.lst []) (dRng2 (dVar 12) (dC (.int 231))) (gdName 15) (dTst (dChn oLe oLe (dUn oNeg (dVar 4)) (dBin oAdd (dBin oMul (dVar 1) (dVar 15)) (dVar 11)) (dVar 4))) [15] (emL (dVar 15))))
    (dSeq (dIfS (tOrD (dTst (dBin oNe (dIf (dTst (dBin oNe (dVar 14) (dLst dNil))) (dBin oIxG (dVar 14) (dC (.int 0))) (dC .non)) (dVar 13))) (tAndD (dTst (dBin oNe (dVar 1) (dC (.int 0)))) (dTst (dBin oGt (dCB oLen (dCons (dVar 14) dNil)) (dBin oAdd (dBin oMul (dC (.int 2)) (dVar 4)) (dC (.int 1))))))) (dRet (dC (.bl false))) dNext)
    (dSeq (dSet 15 (dCall m__law_any [] (dCons (dVar 0) (dCons (dBin oAdd (dLst (dCons (dVar 12) (dCons (dC (.int 230)) (dCons (dC (.int 1000)) dNil)))) (dSl (dVar 14) dNoPart (dPart (dC (.int 1))))) dNil))))
    (dSeq (dSet 16 (dLst (dCons (dCall m_walk_by [] (dCons (dVar 6) (dCons (dC (.int 0)) (dCons (dTup (dCons (dVar 9) (dCons (dVar 10) dNil))) (dCons (dVar 15) dNil))))) (dCons (dCallK m_walk_by (0, [3, 2, 1, 0]) dNil (dCons (dVar 15) (dCons (dTup (dCons (dVar 9) (dCons (dVar 10) dNil))) (dCons (dC (.int 0)) (dCons (dVar 6) dNil))))) dNil))))
    (dIfS (tNotD (dTst (dCall m__law_same [] (dCons (dVar 16) (dCons (dBin oMul (dLst (dCons (dBin oAdd (dBin oMul (dVar 1) (dVar 15)) (dVar 11)) dNil)) (dC (.int 2))) dNil))))) (dRet (dC (.bl false))) dNext))))))) :
    Ends (bnd (gdSeq 4 (gdCons (gdName 9) (gdCons (gdName 10) (gdCons (gdName 12) (gdCons (gdName 13) gdNil)))) (foundD p q st one two r) ([some (.ref a), some (.int st), some (.int one), some (.int two), some (.int r), some (.lst [rowD st one, rowD st two]), some (bareD st one two), some (toldD st one two r), some (.ref L)] ++ [t0, t1, t2, t3, t4, t5, t6, t7])) c ⟨bs, objs.set a (pailD x y z) ++ own⟩) (PNx (EnP a L st one two r) (InP bs objs own a)) := by
  obtain ⟨hs, h1, h2⟩ := hk
  have hp := atQ_bds (q := p) h1 h2
  have hq := atQ_bds (q := q) h1 h2
  have hl := least_bds p q
  generalize hdf : atQ q one two - atQ p one two = df
  have hd : -198 ≤ df ∧ df ≤ 198 := by omega
  have hsm : Sml st := ⟨by omega, by omega⟩
  have hm : ∀ n : Int, oMul (.int st) (.int n) = ret (.int (st * n)) := fun n => k_mul (.inl ⟨by omega, by omega⟩)
  generalize hF : fwD (fwf st df r (208 - least p q).toNat (least p q)) = F
  refine ends_bndR (a := [some (.ref a), some (.int st), some (.int one), some (.int two), some (.int r), some (.lst [rowD st one, rowD st two]), some (bareD st one two), some (toldD st one two r), some (.ref L), some (.int (qI p)), some (.int (qI q)), t2, some (.int (least p q)), some F, t5, t6, t7]) (by simp [foundD, hdf, hF]) ?_
  rw [hc]
  refine ends_nx (ends_setR (d := .int df) (by simp [at_rows, at_two, hdf])) ?_
  simp only [List.set]
  generalize hfi : fineL st df r (least p q) (231 - least p q).toNat = fi
  refine ends_nx (ends_setR (d := .lst (fi.map .int)) ?_) ?_
  · have hw : oRng2 (.int (least p q)) (.int 231) = ret ⟨rangeD (least p q) (231 - least p q).toNat, fun _ => True⟩ := if_pos ⟨by omega, by omega, by omega, by omega⟩
    have hloop : ∀ f : D → D → M D, (∀ n xs, least p q ≤ n → n < 231 → xs.length < CAP → f (.int n) (.lst xs) = ret (.lst (if nearP st df r n = true then xs ++ [.int n] else xs))) → cLoop (fun _ => True) f (rangeD (least p q) (231 - least p q).toNat) (.lst []) = ret (.lst (fi.map .int)) := fun f hf => by
      have := cLoop_filter (f := f) (t := nearP st df r) (k := (231 - least p q).toNat) (lo := least p q) (xs := []) (by show 0 + _ ≤ 100000; omega) (fun n xs a b c => hf n xs a (by omega) c)
      rw [← hfi]
      exact this
    unfold dComp
    have hw2 : dRng2 (dVar 12) (dC (.int 231)) = dRng2 (dVar 12) (dC (.int 231)) := rfl
    refine (congrFun (congrArg bnd (show _ = ret (⟨rangeD (least p q) (231 - least p q).toNat, fun _ => True⟩ : Wl) by simp [dRng2, hw])) _).trans ?_
    rw [bnd_ret, hloop]
    · rfl
    · intro n xs a1 a2 a3
      simp [wipeD, emL, hm, a3, nearP]
      by_cases c1 : -r ≤ st * n + df
      · by_cases c2 : st * n + df ≤ r <;> simp [c1, c2]
      · simp [c1]
  simp only [List.set]
  have hFo : F = fwD fi.head? := by
    rw [← hF, ← hfi, fineL_head, fby_fwfK ⟨hs.1, hs.2⟩ hd ⟨hl.1, hl.2⟩ hr (by omega), fby_fwfK ⟨hs.1, hs.2⟩ hd ⟨hl.1, hl.2⟩ hr (by omega)]
  have hfew : st ≠ 0 → (fi.length : Int) ≤ 2 * r + 1 := fun h0 => by
    rw [← hfi]
    exact fineL_few hs hr.1 h0
  have hmem : ∀ n ∈ fi, least p q ≤ n ∧ n < 231 := fun n hn => by
    rw [← hfi] at hn
    have := fineL_mem hn
    omega
  have hlen : fi.length ≤ 231 := by
    rw [← hfi]
    unfold fineL
    refine Nat.le_trans (List.length_filter_le _ _) ?_
    simp
    omega
  have hn0 : oNe (.lst []) (.lst []) = ret (.bl false) := ne_ints_nil []
  have hn1 : ∀ (i : Int) (l : List Int), oNe (.lst (.int i :: l.map .int)) (.lst []) = ret (.bl true) := fun i l => ne_ints_nil (i :: l)
  have hn2 : oNe .non .non = ret (.bl false) := ne_fw none
  have hm2 : oMul (.int 2) (.int r) = ret (.int (2 * r)) := k_mul (.inl (by decide))
  refine ends_nx (ends_ifsR ?_) ?_
  · rw [hFo]
    by_cases h0 : st = 0
    · cases fi with
      | nil => simp [hn0, hn2, fwD, CAP, h0]
      | cons i l => simp [hn1, fwD, CAP, h0, at_zero]
    · have h3 : ¬ (2 * r + 1 < (fi.length : Int)) := by
        have := hfew h0
        omega
      cases fi with
      | nil =>
        have h3 : ¬ (2 * r + 1 < 0) := by omega
        simp [hn0, hn2, fwD, CAP, h0, hm2, h3]
      | cons i l =>
        have h3 : ¬ (2 * r + 1 < (l.length : Int) + 1) := by simpa using h3
        simp [hn1, fwD, CAP, h0, hm2, at_zero, h3]
  have hsl : oSl (.lst (fi.map .int)) none (some 1) = ret (.lst ((fi.take 1).map .int)) := by
    cases fi with
    | nil => simp [oSl, cutD, HT.sIx]
    | cons i l => simp [oSl, cutD, HT.sIx]
  have hL : (objs.set a (pailD x y z) ++ own)[a]? = some (pailD x y z) := by
    rw [List.getElem?_append_left (by simpa using ha), List.getElem?_set_self ha]
  obtain ⟨d, x', y', z', hd1, he⟩ := x_any (s := ⟨bs, objs.set a (pailD x y z) ++ own⟩) (ds := [.int (least p q), .int 230, .int 1000] ++ (fi.take 1).map .int) hL (by simp) (by simp; omega) (fun d hd => by
    rcases List.mem_append.mp hd with hd | hd
    · simp at hd
      rcases hd with rfl | rfl | rfl <;> simp [noRef]
    · obtain ⟨i, _, rfl⟩ := List.mem_map.mp hd
      simp [noRef])
  obtain ⟨n, rfl, hn1', hn2'⟩ : ∃ n : Int, d = .int n ∧ least p q ≤ n ∧ n ≤ 1000 := by
    rcases List.mem_append.mp hd1 with hd | hd
    · simp at hd
      rcases hd with rfl | rfl | rfl
      · exact ⟨_, rfl, by omega, by omega⟩
      · exact ⟨_, rfl, by omega, by omega⟩
      · exact ⟨_, rfl, by omega, by omega⟩
    · obtain ⟨i, hi, rfl⟩ := List.mem_map.mp hd
      have := hmem i (List.mem_of_mem_take hi)
      exact ⟨i, rfl, by omega, by omega⟩
  have he2 : setA ⟨bs, objs.set a (pailD x y z) ++ own⟩ a (pailD x' y' z') = ⟨bs, objs.set a (pailD x' y' z') ++ own⟩ := by
    unfold setA
    dsimp only
    rw [List.set_append_left _ _ (by simpa using ha), List.set_set]
  rw [he2] at he
  refine ends_nx (ends_set (d := .int n) (s1 := ⟨bs, objs.set a (pailD x' y' z') ++ own⟩) ?_) ?_
  · refine Eq.trans ?_ he
    have h4 : 3 + (fi.take 1).length ≤ CAP := by
      simp [CAP]
      omega
    have h5 : oAdd (.lst [.int (least p q), .int 230, .int 1000]) (.lst ((fi.take 1).map .int)) = ret (.lst ([.int (least p q), .int 230, .int 1000] ++ (fi.take 1).map .int)) := if_pos (by simpa using h4)
    simp only [k_call, k_cons, k_nil, k_bin, k_lst, k_sl, k_part, k_nopart, k_c, bnd_ret, k_var0, k_vars, List.length_cons, List.length_nil, k_isI, hsl]
    rw [if_pos (by simp [CAP]), bnd_ret, h5]
    rfl
  simp only [List.set]
  have hw := x_walk p q (st := st) (a := one) (b := two) (n := n) ⟨hs, h1, h2⟩ hn1' hn2'
  rw [hdf] at hw
  refine ends_nx (ends_setR (d := .lst [.int (st * n + df), .int (st * n + df)]) ?_) ?_
  · simp [hw, gP, gP0, CAP]
  simp only [List.set]
  have hsame : m__law_same [.lst [.int (st * n + df), .int (st * n + df)], .lst [.int (st * n + df), .int (st * n + df)]] = ret (.bl true) := by
    have hb : (st * n + df).natAbs < 10 ^ 15 := by
      have : -9000 ≤ st * n ∧ st * n ≤ 9000 := by
        rcases stCases hs with rfl|rfl|rfl|rfl|rfl|rfl|rfl|rfl|rfl|rfl|rfl|rfl|rfl|rfl|rfl|rfl|rfl|rfl|rfl <;> omega
      omega
    exact x_same (p := .list [.int (st * n + df), .int (st * n + df)]) rfl (by simp [plainP, plainL, hb]) (by simp [widP, widL, CAP]) (by simp [PyData.depth, PyData.depthAll]) rfl
  refine ends_eq (ends_ifsR ?_) ⟨_, _, rfl, ⟨[some (.int (qI p)), some (.int (qI q)), some (.int df), some (.int (least p q)), some F, some (.lst (fi.map .int)), some (.int n), some (.lst [.int (st * n + df), .int (st * n + df)])], rfl, rfl⟩, ⟨x', y', z', rfl⟩⟩
  have hmul : oMul (.lst [.int (st * n + df)]) (.int 2) = ret (.lst [.int (st * n + df), .int (st * n + df)]) := by
    unfold oMul
    dsimp only
    rw [if_pos (by simp [CAP])]
    rfl
  simp [hm, CAP, hmul, hsame]
end DS.Lw
namespace DS.Lw
open PySem L2 PySem.Spec PyProof.Rows
theorem fwf_range {st df r n : Int} : ∀ {k : Nat} {lo : Int}, fwf st df r k lo = some n → lo ≤ n ∧ n < lo + k
  | 0, lo, h => by cases h
  | k + 1, lo, h => by
    rw [fwf] at h
    split at h
    · cases h
      omega
    · have := fwf_range h
      omega
def fwP (o : Option Int) : PyData := match o with
  | some n => .int n
  | none => .none
theorem toPy_fw (o : Option Int) : toPy (fwD o) = some (fwP o) := by cases o <;> rfl
theorem fwP_ok {o : Option Int} (h : ∀ n, o = some n → n.natAbs < 1000000) : plainP (fwP o) = true ∧ widP (fwP o) ≤ 16 ∧ (fwP o).depth = 0 := by
  cases o with
  | none => exact ⟨rfl, by decide, rfl⟩
  | some n =>
    have := h n rfl
    exact ⟨by simp [fwP, plainP]; omega, by simp [fwP, widP], rfl⟩
theorem told_same (st a b r : Int) : m__law_same [.lst [toldD st a b r, toldD st a b r], .lst [toldD st a b r, toldD st a b r]] = ret (.bl true) := by
  have hb : ∀ df l, 0 ≤ l → l ≤ 1 → ∀ n, fwf st df r (208 - l).toNat l = some n → n.natAbs < 1000000 := fun df l h0 h1 n e => by
    have := fwf_range e
    omega
  obtain ⟨a1, a2, a3⟩ := fwP_ok (hb (a - a) 1 (by decide) (by decide))
  obtain ⟨b1, b2, b3⟩ := fwP_ok (hb (b - a) 0 (by decide) (by decide))
  obtain ⟨c1, c2, c3⟩ := fwP_ok (hb (a - b) 1 (by decide) (by decide))
  obtain ⟨d1, d2, d3⟩ := fwP_ok (hb (b - b) 1 (by decide) (by decide))
  unfold toldD fwV
  generalize fwf st (a - a) r (208 - 1 : Int).toNat 1 = o1 at *
  generalize fwf st (b - a) r (208 - 0 : Int).toNat 0 = o2 at *
  generalize fwf st (a - b) r (208 - 1 : Int).toNat 1 = o3 at *
  generalize fwf st (b - b) r (208 - 1 : Int).toNat 1 = o4 at *
  let t : PyData := .tuple [.tuple [.int 0, .int 0, .int 1, fwP o1], .tuple [.int 0, .int 1, .int 0, fwP o2], .tuple [.int 1, .int 0, .int 1, fwP o3], .tuple [.int 1, .int 1, .int 1, fwP o4]]
  refine x_same (p := .list [t, t]) ?_ ?_ ?_ ?_ rfl
  · simp [toPy, toPyL, toPy_fw, t]
  · simp [plainP, plainL, t, a1, b1, c1, d1]
  · simp [widP, widL, t, CAP]
    omega
  · simp [PyData.depth, PyData.depthAll, t, a3, b3, c3, d3]
theorem x_pair_right {s : S} {a : Nat} {x y z st one two r : Int} (ha : s.objs[a]? = some (pailD x y z)) (hk : Ok st one two) (hr : 0 ≤ r ∧ r ≤ 9) :
    ∃ x' y' z', m__law_pair_right [.ref a, .int st, .int one, .int two, .int r] s = some (.ok (.bl true), setA s a (pailD x' y' z')) := by
  have hl : a < s.objs.length := (List.getElem?_eq_some_iff.mp ha).1
  have hset : s.objs.set a (pailD x y z) = s.objs := by
    have el : s.objs[a] = pailD x y z := (List.getElem?_eq_some_iff.mp ha).2
    rw [← el]
    simp
  let own : List D := [.lst [foundD false false st one two r, foundD false true st one two r, foundD true false st one two r, foundD true true st one two r]]
  have main : Ends (b__law_pair_right (startD 17 [.ref a, .int st, .int one, .int two, .int r]) ⟨s.objs.length :: s.bases, s.objs⟩) (fun q => ∃ s', q = (.ok (.rt (.bl true)), s') ∧ InP (s.objs.length :: s.bases) s.objs own a s') := by
    unfold b__law_pair_right
    refine ends_nx (ends_setR (d := .lst [rowD st one, rowD st two]) (by simp [CAP])) ?_
    refine ends_nx (ends_setR (d := bareD st one two) (by simp [CAP, x_bare])) ?_
    refine ends_nx (ends_ifsR (by simp [gP, gP0, CAP, x_references hk, ne_refs, x_classes hk, ne_cls])) ?_
    refine ends_nx (ends_setR (d := toldD st one two r) (by simp [gP, gP0, CAP, x_links hk hr])) ?_
    refine ends_nx (ends_set (d := .ref s.objs.length) (s1 := ⟨s.objs.length :: s.bases, s.objs ++ [.lst []]⟩) (by simp [CAP, k_mk])) ?_
    have hb : ∀ {df l : Int}, -198 ≤ df ∧ df ≤ 198 → 0 ≤ l ∧ l ≤ 1 → m__law_free_by [.int st, .int df, .int l, .int r] = ret (fwD (fwf st df r (208 - l).toNat l)) := fun {df l} h1 h2 => by
      rw [x_free_by hk.1 h1 h2 hr, fby_fwfK hk.1 h1 h2 hr (by omega)]
    obtain ⟨h1, h2⟩ := hk.2
    have f00 : m__law_free_by [.int st, .int 0, .int 1, .int r] = ret (fwD (fwf st 0 r 207 1)) := hb (by omega) (by omega)
    have f01 : m__law_free_by [.int st, .int (two - one), .int 0, .int r] = ret (fwD (fwf st (two - one) r 208 0)) := hb (by omega) (by omega)
    have f10 : m__law_free_by [.int st, .int (one - two), .int 1, .int r] = ret (fwD (fwf st (one - two) r 207 1)) := hb (by omega) (by omega)
    refine ends_nx (ρ1 := [some (.ref a), some (.int st), some (.int one), some (.int two), some (.int r), some (.lst [rowD st one, rowD st two]), some (bareD st one two), some (toldD st one two r), some (.ref s.objs.length), some (.int 1), some (.int 1), some (.int 0), some (.int 1), none, none, none, none]) (s1 := ⟨s.objs.length :: s.bases, s.objs ++ own⟩) ?_ ?_
    · simp [k_bnd, k_mk, k_ret_s, CAP, dFor, dItS, oWalk, forW, chk_true, dBM, tyM, k_look, mAppend, put, headOk, isLck, noRef, noRefL, loopS, atI, ixN, f00, f01, f10, fwV_noRef, own, foundD, qI, least, atQ]
    let F4 : List D := [foundD false false st one two r, foundD false true st one two r, foundD true false st one two r, foundD true true st one two r]
    have hLk : look s.objs.length ⟨s.objs.length :: s.bases, s.objs ++ own⟩ = some (.ok (.lst F4), ⟨s.objs.length :: s.bases, s.objs ++ own⟩) := k_look (by simp [own, F4])
    have hT : oTuple [.ref s.objs.length] ⟨s.objs.length :: s.bases, s.objs ++ own⟩ = some (.ok (toldD st one two r), ⟨s.objs.length :: s.bases, s.objs ++ own⟩) := by
      rw [told_found]
      unfold oTuple
      exact k_bnd_ok hLk
    refine ends_nx (ends_ifs ?_ rfl) ?_
    · simp [k_bnd, k_ret_s, gP, gP0, CAP, x_links hk hr, hT, told_same]
    refine ends_ex (E := EnP a s.objs.length st one two r) (I := InP (s.objs.length :: s.bases) s.objs own a) (ends_for (wl := ⟨F4, fun t => t.objs[s.objs.length]? = some (.lst F4)⟩) ?_ ?_ ?_ ⟨_, rfl, rfl⟩ ⟨x, y, z, by rw [hset]⟩) ?_
    · show bnd _ _ _ = _
      refine (k_bnd_ok (a := .ref s.objs.length) rfl).trans ?_
      unfold oWalk
      exact k_bnd_ok hLk
    · rintro t ⟨x1, y1, z1, rfl⟩
      show (s.objs.set a _ ++ own)[_]? = _
      rw [List.getElem?_append_right (by simp)]
      simp [own, F4]
    · rintro d hd ρ t ⟨tl, htl, rfl⟩ ⟨x1, y1, z1, rfl⟩
      match tl, htl with
      | [t0, t1, t2, t3, t4, t5, t6, t7], _ =>
        have hd : d = foundD false false st one two r ∨ d = foundD false true st one two r ∨ d = foundD true false st one two r ∨ d = foundD true true st one two r := by simpa [F4] using hd
        rcases hd with rfl | rfl | rfl | rfl
        · exact x_turn hl hk hr t0 t1 t2 t3 t4 t5 t6 t7 rfl
        · exact x_turn hl hk hr t0 t1 t2 t3 t4 t5 t6 t7 rfl
        · exact x_turn hl hk hr t0 t1 t2 t3 t4 t5 t6 t7 rfl
        · exact x_turn hl hk hr t0 t1 t2 t3 t4 t5 t6 t7 rfl
    · intro ρ1 s1 _ i
      exact ends_eq rfl ⟨s1, rfl, i⟩
  obtain ⟨q, e, s', rfl, x', y', z', rfl⟩ := main
  exact ⟨x', y', z', frm_run2 rfl e (by simp) rfl (by simp [noRef])⟩
end DS.Lw
namespace DS.Lw
open PySem L2 PySem.Spec PyProof.Rows
theorem ends_parS {n m : Nat} {fa : En → M (List D)} {ρ : En} {s s1 : S} {d e : D} (h : fa ρ s = some (.ok [d, e], s1)) : dPar n m fa ρ s = some (.ok (.nx ((ρ.set n (some d)).set m (some e))), s1) := by
  rw [k_par, k_bnd_ok h]
  rfl
theorem ends_ifsS {t : En → M Bool} {b : En → M Fl} {ρ : En} {s s1 : S} (h : t ρ s = some (.ok false, s1)) : dIfS t b dNext ρ s = some (.ok (.nx ρ), s1) := by
  rw [k_ifs, k_bnd_ok h]
  rfl
def stA (bs : List Nat) (objs : List D) (a : Nat) (x y z : Int) : S := ⟨bs, objs.set a (pailD x y z)⟩
theorem stA_at {bs : List Nat} {objs : List D} {a : Nat} {x y z : Int} (ha : a < objs.length) : (stA bs objs a x y z).objs[a]? = some (pailD x y z) := by
  show (objs.set a _)[a]? = _
  rw [List.getElem?_set_self ha]
theorem stA_set {bs : List Nat} {objs : List D} {a : Nat} {x y z x' y' z' : Int} : setA (stA bs objs a x y z) a (pailD x' y' z') = stA bs objs a x' y' z' := by
  unfold setA stA
  dsimp only
  rw [List.set_set]
theorem deal_at {bs : List Nat} {objs : List D} {a : Nat} (ha : a < objs.length) (x y z : Int) {top : Int} (h1 : 0 < top) (h2 : top < 1073741824) : ∃ v x' y' z', (0 ≤ v ∧ v < top) ∧ m__law_deal [.ref a, .int top] (stA bs objs a x y z) = some (.ok (.int v), stA bs objs a x' y' z') := by
  obtain ⟨v, x', y', z', h, e⟩ := x_deal (stA_at (bs := bs) (x := x) (y := y) (z := z) ha) h1 h2
  exact ⟨v, x', y', z', h, by rw [e, stA_set]⟩
theorem pair_at {bs : List Nat} {objs : List D} {a : Nat} (ha : a < objs.length) (x y z : Int) {st one two r : Int} (hk : Ok st one two) (hr : 0 ≤ r ∧ r ≤ 9) : ∃ x' y' z', m__law_pair_right [.ref a, .int st, .int one, .int two, .int r] (stA bs objs a x y z) = some (.ok (.bl true), stA bs objs a x' y' z') := by
  obtain ⟨x', y', z', e⟩ := x_pair_right (stA_at (bs := bs) (x := x) (y := y) (z := z) ha) hk hr
  exact ⟨x', y', z', by rw [e, stA_set]⟩
def EnR1 (a : Nat) (ρ : En) : Prop := ∃ t0 t1 t2 t3 t4, ρ = [some (.ref a), t0, t1, t2, t3, t4]
def InR (bs : List Nat) (objs : List D) (a : Nat) (s : S) : Prop := ∃ x y z, s = stA bs objs a x y z
theorem x_right {s : S} {a : Nat} {x y z : Int} (ha : s.objs[a]? = some (pailD x y z)) : ∃ x' y' z', m__law_right [.ref a] s = some (.ok (.bl true), setA s a (pailD x' y' z')) := by
  have hl : a < s.objs.length := (List.getElem?_eq_some_iff.mp ha).1
  have hset : s.objs.set a (pailD x y z) = s.objs := by
    have el : s.objs[a] = pailD x y z := (List.getElem?_eq_some_iff.mp ha).2
    rw [← el]
    simp
  have main : Ends (b__law_right (startD 6 [.ref a]) ⟨s.objs.length :: s.bases, s.objs⟩) (fun q => ∃ s', q = (.ok (.rt (.bl true)), s') ∧ InR (s.objs.length :: s.bases) s.objs a s') := by
    unfold b__law_right
    refine ends_ex (E := EnR1 a) (I := InR (s.objs.length :: s.bases) s.objs a) (ends_for (wl := ⟨rangeD 0 25, fun _ => True⟩) rfl (fun _ _ => trivial) ?_ ⟨_, _, _, _, _, rfl⟩ ⟨x, y, z, by unfold stA; rw [hset]⟩) ?_
    · rintro d hd ρ t ⟨t0, t1, t2, t3, t4, rfl⟩ ⟨x1, y1, z1, rfl⟩
      refine ends_bndR (a := [some (.ref a), some d, t1, t2, t3, t4]) rfl ?_
      obtain ⟨v1, x2, y2, z2, b1, e1⟩ := deal_at (bs := s.objs.length :: s.bases) hl x1 y1 z1 (top := 19) (by decide) (by decide)
      obtain ⟨v2, x3, y3, z3, b2, e2⟩ := deal_at (bs := s.objs.length :: s.bases) hl x2 y2 z2 (top := 10) (by decide) (by decide)
      obtain ⟨v3, x4, y4, z4, b3, e3⟩ := deal_at (bs := s.objs.length :: s.bases) hl x3 y3 z3 (top := 199) (by decide) (by decide)
      obtain ⟨v4, x5, y5, z5, b4, e4⟩ := deal_at (bs := s.objs.length :: s.bases) hl x4 y4 z4 (top := 199) (by decide) (by decide)
      refine ends_nx (ends_parS (d := .int (v1 - 9)) (e := .int v2) (s1 := stA (s.objs.length :: s.bases) s.objs a x3 y3 z3) ?_) ?_
      · simp [k_bnd, k_ret_s, e1, e2]
      simp only [List.set]
      obtain ⟨d5, x6, y6, z6, hd5, e5⟩ := x_any (ds := [.int (v4 - 99), .int 99, .int (-99)]) (stA_at (bs := s.objs.length :: s.bases) (x := x5) (y := y5) (z := z5) hl) (by simp) (by simp) (by simp [noRef])
      rw [stA_set] at e5
      obtain ⟨w5, rfl, b5⟩ : ∃ w : Int, d5 = .int w ∧ -99 ≤ w ∧ w ≤ 99 := by
        simp at hd5
        rcases hd5 with rfl | rfl | rfl
        · exact ⟨_, rfl, by omega, by omega⟩
        · exact ⟨_, rfl, by omega, by omega⟩
        · exact ⟨_, rfl, by omega, by omega⟩
      refine ends_nx (ends_parS (d := .int (v3 - 99)) (e := .int w5) (s1 := stA (s.objs.length :: s.bases) s.objs a x6 y6 z6) ?_) ?_
      · simp [k_bnd, k_ret_s, e3, e4, e5, CAP]
      simp only [List.set]
      obtain ⟨v6, x7, y7, z7, b6, e6⟩ := deal_at (bs := s.objs.length :: s.bases) hl x6 y6 z6 (top := 3) (by decide) (by decide)
      obtain ⟨v7, x8, y8, z8, b7, e7⟩ := deal_at (bs := s.objs.length :: s.bases) hl x7 y7 z7 (top := 21) (by decide) (by decide)
      obtain ⟨w, x9, y9, z9, bw, ew⟩ : ∃ w x9 y9 z9, (-99 ≤ w ∧ w ≤ 99) ∧ (dIfS (dTst (dBin oEq (dCall m__law_deal [] (dCons (dVar 0) (dCons (dC (.int 3)) dNil))) (dC (.int 0)))) (dSet 5 (dCB oMax2 (dCons (dUn oNeg (dC (.int 99))) (dCons (dCB oMin2 (dCons (dC (.int 99)) (dCons (dBin oSub (dBin oAdd (dVar 4) (dCall m__law_deal [] (dCons (dVar 0) (dCons (dC (.int 21)) dNil)))) (dC (.int 10))) dNil))) dNil)))) dNext) [some (.ref a), some d, some (.int (v1 - 9)), some (.int v2), some (.int (v3 - 99)), some (.int w5)] (stA (s.objs.length :: s.bases) s.objs a x6 y6 z6) = some (.ok (.nx [some (.ref a), some d, some (.int (v1 - 9)), some (.int v2), some (.int (v3 - 99)), some (.int w)]), stA (s.objs.length :: s.bases) s.objs a x9 y9 z9) := by
        by_cases h0 : v6 = 0
        · refine ⟨_, x8, y8, z8, ?_, by simp [k_bnd, k_ret_s, e6, e7, h0]; rfl⟩
          split <;> (try split) <;> omega
        · exact ⟨w5, x7, y7, z7, b5, by simp [k_bnd, k_ret_s, e6, h0]⟩
      refine ends_nx ew ?_
      obtain ⟨x10, y10, z10, e10⟩ := pair_at (bs := s.objs.length :: s.bases) hl x9 y9 z9 (st := v1 - 9) (one := v3 - 99) (two := w) (r := v2) ⟨by omega, by omega, bw⟩ (by omega)
      refine ends_eq (ends_ifsS (s1 := stA (s.objs.length :: s.bases) s.objs a x10 y10 z10) ?_) ⟨_, _, rfl, ⟨_, _, _, _, _, rfl⟩, ⟨_, _, _, rfl⟩⟩
      simp [k_bnd, k_ret_s, e10]
    · rintro ρ1 s1 ⟨t0, t1, t2, t3, t4, rfl⟩ ⟨x1, y1, z1, rfl⟩
      refine ends_ex (E := EnR1 a) (I := InR (s.objs.length :: s.bases) s.objs a) (ends_for (wl := ⟨[.tup [.int 1, .int (-99), .int 99, .int 9], .tup [.int (-1), .int (-99), .int 99, .int 0], .tup [.int 0, .int 5, .int 5, .int 0]], fun _ => True⟩) (by simp [dItS, CAP, oWalk, k_ret_s]) (fun _ _ => trivial) ?_ ⟨_, _, _, _, _, rfl⟩ ⟨_, _, _, rfl⟩) ?_
      · rintro d hd ρ t ⟨t0, t1, t2, t3, t4, rfl⟩ ⟨x1, y1, z1, rfl⟩
        obtain ⟨st, one, two, r, rfl, hk, hr⟩ : ∃ st one two r, d = .tup [.int st, .int one, .int two, .int r] ∧ Ok st one two ∧ 0 ≤ r ∧ r ≤ 9 := by
          simp at hd
          rcases hd with rfl | rfl | rfl
          · exact ⟨_, _, _, _, rfl, by unfold Ok; omega, by omega⟩
          · exact ⟨_, _, _, _, rfl, by unfold Ok; omega, by omega⟩
          · exact ⟨_, _, _, _, rfl, by unfold Ok; omega, by omega⟩
        refine ends_bndR (a := [some (.ref a), t0, some (.int st), some (.int r), some (.int one), some (.int two)]) (by simp) ?_
        obtain ⟨x10, y10, z10, e10⟩ := pair_at (bs := s.objs.length :: s.bases) hl x1 y1 z1 hk hr
        refine ends_eq (ends_ifsS (s1 := stA (s.objs.length :: s.bases) s.objs a x10 y10 z10) ?_) ⟨_, _, rfl, ⟨_, _, _, _, _, rfl⟩, ⟨_, _, _, rfl⟩⟩
        simp [k_bnd, k_ret_s, e10]
      · intro ρ1 s1 _ i
        exact ends_eq rfl ⟨s1, rfl, i⟩
  obtain ⟨q, e, s', rfl, x', y', z', rfl⟩ := main
  exact ⟨x', y', z', frm_run2 (own := []) rfl (by rw [e, List.append_nil]; rfl) (by simp) rfl (by simp [noRef])⟩
end DS.Lw
namespace DS.Lw
open PySem L2 PySem.Spec PyProof.Rows
def EnL (ns : D) (k : Int) (ρ : En) : Prop := ∃ (v : Int) (t : Option D), ρ = [some ns, some (.int k), some (.int v), t, none]
theorem x_pail {s : S} {ns : List Int} {k : Nat} : ∃ x y, m__law_pail [.scr (ns.map .int), .int k] s = some (.ok (.ref s.objs.length), ⟨s.bases, s.objs ++ [pailD x y 0]⟩) := by
  have hm1 : ∀ u : Int, oMul (.int u) (.int 65071) = ret (.int (u * 65071)) := fun u => k_mul (.inr (by decide))
  have hm2 : ∀ u : Int, oMul (.int u) (.int 17) = ret (.int (u * 17)) := fun u => k_mul (.inr (by decide))
  have hm3 : ∀ u : Int, oMul (.int 19175) (.int u) = ret (.int (19175 * u)) := fun u => k_mul (.inl (by decide))
  have hm4 : ∀ u : Int, oMul (.int u) (.int 61) = ret (.int (u * 61)) := fun u => k_mul (.inr (by decide))
  have hm5 : ∀ u : Int, oMul (.int u) (.int 30011) = ret (.int (u * 30011)) := fun u => k_mul (.inr (by decide))
  have hpw : oPow (.int 10) (.int 15) = ret (.int 1000000000000000) := by
    show (if CPow 10 15 then ret (D.int (10 ^ (15 : Int).toNat)) else stuck) = _
    rw [if_pos (by unfold CPow; decide)]
    rfl
  have main : Ends (b__law_pail (startD 5 [.scr (ns.map .int), .int k]) s) (fun q => ∃ x y, q = (.ok (.rt (.ref s.objs.length)), ⟨s.bases, s.objs ++ [pailD x y 0]⟩)) := by
    unfold b__law_pail
    refine ends_nx (ends_setR (d := .int (9928377 + 19175 * k)) (by simp [hm3])) ?_
    refine ends_ex (E := EnL (.scr (ns.map .int)) k) (I := fun t => t = s) (ends_for (wl := ⟨cutD (ns.map .int) none (some 12), fun _ => True⟩) rfl (fun _ _ => trivial) ?_ ⟨_, _, rfl⟩ rfl) ?_
    · rintro d hd ρ t ⟨v, t3, rfl⟩ rfl
      obtain ⟨i, rfl⟩ : ∃ i : Int, d = .int i := by
        have := List.mem_of_mem_drop (List.mem_of_mem_take hd)
        obtain ⟨i, _, rfl⟩ := List.mem_map.mp this
        exact ⟨i, rfl⟩
      refine ends_bndR (a := [some (.scr (ns.map .int)), some (.int k), some (.int v), some (.int i), none]) rfl ?_
      exact ends_eq (ends_setR (d := .int ((v * 65071 + i % 2147483423 * 17 + 5) % 2147483423)) (by simp [hm1, hm2, k_mod])) ⟨_, _, rfl, ⟨_, _, rfl⟩, rfl⟩
    · rintro ρ1 s1 ⟨v, t3, rfl⟩ rfl
      obtain ⟨w, hw⟩ : ∃ w : Int, (dIf (dTst (dBin oLt (dVar 1) (dCB oLen (dCons (dVar 0) dNil)))) (dCB oInt (dCons (dBin oIxG (dVar 0) (dVar 1)) dNil)) (dC (.int 0))) [some (.scr (ns.map .int)), some (.int k), some (.int v), t3, none] = ret (.int w) := by
        by_cases h : k < ns.length
        · refine ⟨ns[k], ?_⟩
          have hi : atI (ns.map D.int) (k : Int) = some (.int ns[k]) := by
            have h3 : ixN (ns.map D.int).length (k : Int) = some k := by
              unfold ixN
              rw [if_pos (by omega), if_pos (by simpa using h)]
              simp
            unfold atI
            rw [h3]
            show (ns.map D.int)[k]? = _
            simp [h]
          simp [h, hi]
        · exact ⟨0, by simp [h]⟩
      refine ends_nx (ends_setR hw) ?_
      simp only [List.set]
      refine ends_nx (ends_setR (d := .int ((v * 61 + w % 2147483423 * 30011 + 7) % 2147483423)) (by simp [hm4, hm5, k_mod])) ?_
      simp only [List.set]
      refine ⟨_, ?_, if w < 0 ∨ 1000000000000000 ≤ w then (if w < 0 then -w else w) else 0, (v * 61 + w % 2147483423 * 30011 + 7) % 2147483423, rfl⟩
      by_cases h1 : w < 0
      · simp [h1, hpw, k_bnd, k_mk, k_ret_s, CAP]
      · by_cases h2 : 1000000000000000 ≤ w <;> simp [h1, h2, hpw, k_bnd, k_mk, k_ret_s, CAP]
  obtain ⟨q, e, x, y, rfl⟩ := main
  exact ⟨x, y, frmK_run rfl e rfl⟩
theorem x_one {bs : List Nat} {objs : List D} {ns : List Int} (k : Nat) : ∃ objs' r, m__law_pail [.scr (ns.map .int), .int k] ⟨bs, objs⟩ = some (.ok (.ref objs.length), ⟨bs, r⟩) ∧ m__law_right [.ref objs.length] ⟨bs, r⟩ = some (.ok (.bl true), ⟨bs, objs'⟩) := by
  obtain ⟨x, y, e⟩ := x_pail (s := ⟨bs, objs⟩) (ns := ns) (k := k)
  obtain ⟨x', y', z', e2⟩ := x_right (s := ⟨bs, objs ++ [pailD x y 0]⟩) (a := objs.length) (x := x) (y := y) (z := 0) (by simp)
  exact ⟨_, _, e, e2⟩
theorem x_law (ns : List Int) : ∃ s', m_law [.scr (ns.map .int)] ⟨[], []⟩ = some (.ok (.bl true), s') := by
  have main : Ends (b_law (startD 2 [.scr (ns.map .int)]) ⟨[0], []⟩) (fun q => ∃ objs, q = (.ok (.rt (.bl true)), ⟨[0], objs⟩)) := by
    obtain ⟨o1, r1, a1, c1⟩ := x_one (bs := [0]) (objs := []) (ns := ns) 0
    obtain ⟨o2, r2, a2, c2⟩ := x_one (bs := [0]) (objs := o1) (ns := ns) 1
    obtain ⟨o3, r3, a3, c3⟩ := x_one (bs := [0]) (objs := o2) (ns := ns) 2
    obtain ⟨m, hm, hw⟩ : ∃ m : Nat, (m = 1 ∨ m = 2 ∨ m = 3) ∧ (dRng1 (dCB oMax2 (dCons (dC (.int 1)) (dCons (dCB oMin2 (dCons (dCB oLen (dCons (dVar 0) dNil)) (dCons (dC (.int 3)) dNil))) dNil)))) [some (.scr (ns.map .int)), none] = ret ⟨rangeD 0 m, fun _ => True⟩ := by
      match h : ns.length with
      | 0 => exact ⟨1, by decide, by simp [dRng1, oRng1, h]⟩
      | 1 => exact ⟨1, by decide, by simp [dRng1, oRng1, h]⟩
      | 2 => exact ⟨2, by decide, by simp [dRng1, oRng1, h]⟩
      | n + 3 => 
        have h1 : ¬ ((3 : Int) < (n : Int) + 3) ∨ (3 : Int) < (n : Int) + 3 := by omega
        rcases h1 with h1 | h1
        · have : n = 0 := by omega
          subst this
          exact ⟨3, by decide, by simp [dRng1, oRng1, h]⟩
        · have h2 : (3 : Int) < (n : Int) + 2 + 1 := by omega
          exact ⟨3, by decide, by simp [dRng1, oRng1, h, h2]⟩
    have q1 : rangeD 0 1 = [.int 0] := rfl
    have q2 : rangeD 0 2 = [.int 0, .int 1] := rfl
    have q3 : rangeD 0 3 = [.int 0, .int 1, .int 2] := rfl
    have a1 : m__law_pail [.scr (ns.map .int), .int 0] ⟨[0], []⟩ = _ := a1
    have a2 : m__law_pail [.scr (ns.map .int), .int 1] ⟨[0], o1⟩ = _ := a2
    have a3 : m__law_pail [.scr (ns.map .int), .int 2] ⟨[0], o2⟩ = _ := a3
    have c1 : m__law_right [.ref 0] ⟨[0], r1⟩ = _ := c1
    rcases hm with rfl | rfl | rfl
    · refine ⟨_, ?_, o1, rfl⟩
      simp [b_law, dComp, k_bnd, k_ret_s, hw, q1, cLoop, chk_true, wipeD, emL, CAP, noEr, a1, c1]
    · refine ⟨_, ?_, o2, rfl⟩
      simp [b_law, dComp, k_bnd, k_ret_s, hw, q2, cLoop, chk_true, wipeD, emL, CAP, noEr, a1, c1, a2, c2]
    · refine ⟨_, ?_, o3, rfl⟩
      simp [b_law, dComp, k_bnd, k_ret_s, hw, q3, cLoop, chk_true, wipeD, emL, CAP, noEr, a1, c1, a2, c2, a3, c3]
  obtain ⟨q, e, objs, rfl⟩ := main
  exact ⟨_, frm_run2 (s := ⟨[], []⟩) (objs' := []) (own := objs) rfl e rfl rfl (by simp [noRef])⟩
end DS.Lw
/-! the head (printed by gen.py) -/
namespace DS.Lw
open PySem L2 PySem.Spec PyProof.Rows
def dJ_is_whole : He.DefD := ⟨("is_whole", none), "is_whole", "is_whole", defArgs s_is_whole, defBody s_is_whole, defScope s_is_whole, [], []⟩
def dJ_is_number : He.DefD := ⟨("is_number", none), "is_number", "is_number", defArgs s_is_number, defBody s_is_number, defScope s_is_number, [.non], []⟩
def dJ_is_word : He.DefD := ⟨("is_word", none), "is_word", "is_word", defArgs s_is_word, defBody s_is_word, defScope s_is_word, [], []⟩
def dJ_is_tuple_of : He.DefD := ⟨("is_tuple_of", none), "is_tuple_of", "is_tuple_of", defArgs s_is_tuple_of, defBody s_is_tuple_of, defScope s_is_tuple_of, [], []⟩
def dJ_is_short_tuple : He.DefD := ⟨("is_short_tuple", none), "is_short_tuple", "is_short_tuple", defArgs s_is_short_tuple, defBody s_is_short_tuple, defScope s_is_short_tuple, [], []⟩
def dJ_is_one_of : He.DefD := ⟨("is_one_of", none), "is_one_of", "is_one_of", defArgs s_is_one_of, defBody s_is_one_of, defScope s_is_one_of, [], []⟩
def dJ_is_headed : He.DefD := ⟨("is_headed", none), "is_headed", "is_headed", defArgs s_is_headed, defBody s_is_headed, defScope s_is_headed, [], []⟩
def dJ_check_reach : He.DefD := ⟨("check_reach", none), "check_reach", "check_reach", defArgs s_check_reach, defBody s_check_reach, defScope s_check_reach, [], []⟩
def dJ_bodies_of : He.DefD := ⟨("bodies_of", none), "bodies_of", "bodies_of", defArgs s_bodies_of, defBody s_bodies_of, defScope s_bodies_of, [], []⟩
def dJ_size_of : He.DefD := ⟨("size_of", none), "size_of", "size_of", defArgs s_size_of, defBody s_size_of, defScope s_size_of, [], []⟩
def dJ_items_of : He.DefD := ⟨("items_of", none), "items_of", "items_of", defArgs s_items_of, defBody s_items_of, defScope s_items_of, [], []⟩
def dJ_BareLoop_init : He.DefD := ⟨("BareLoop", some "__init__"), "__init__", "BareLoop.__init__", defArgs s_BareLoop_init, defBody s_BareLoop_init, defScope s_BareLoop_init, [], []⟩
def dJ_loops_of : He.DefD := ⟨("loops_of", none), "loops_of", "loops_of", defArgs s_loops_of, defBody s_loops_of, defScope s_loops_of, [], []⟩
def dJ_references_of : He.DefD := ⟨("references_of", none), "references_of", "references_of", defArgs s_references_of, defBody s_references_of, defScope s_references_of, [], []⟩
def dJ_is_plain_item : He.DefD := ⟨("is_plain_item", none), "is_plain_item", "is_plain_item", defArgs s_is_plain_item, defBody s_is_plain_item, defScope s_is_plain_item, [], []⟩
def dJ_is_reference : He.DefD := ⟨("is_reference", none), "is_reference", "is_reference", defArgs s_is_reference, defBody s_is_reference, defScope s_is_reference, [], []⟩
def dJ_is_inner : He.DefD := ⟨("is_inner", none), "is_inner", "is_inner", defArgs s_is_inner, defBody s_is_inner, defScope s_is_inner, [], []⟩
def dJ_is_item : He.DefD := ⟨("is_item", none), "is_item", "is_item", defArgs s_is_item, defBody s_is_item, defScope s_is_item, [], []⟩
def dJ_is_body : He.DefD := ⟨("is_body", none), "is_body", "is_body", defArgs s_is_body, defBody s_is_body, defScope s_is_body, [], []⟩
def dJ_are_lengths : He.DefD := ⟨("are_lengths", none), "are_lengths", "are_lengths", defArgs s_are_lengths, defBody s_are_lengths, defScope s_are_lengths, [], []⟩
def dJ_is_bare_form : He.DefD := ⟨("is_bare_form", none), "is_bare_form", "is_bare_form", defArgs s_is_bare_form, defBody s_is_bare_form, defScope s_is_bare_form, [], []⟩
def dJ_check_bare : He.DefD := ⟨("check_bare", none), "check_bare", "check_bare", defArgs s_check_bare, defBody s_check_bare, defScope s_check_bare, [], []⟩
def dJ_check_loop : He.DefD := ⟨("check_loop", none), "check_loop", "check_loop", defArgs s_check_loop, defBody s_check_loop, defScope s_check_loop, [], []⟩
def dJ_is_pair : He.DefD := ⟨("is_pair", none), "is_pair", "is_pair", defArgs s_is_pair, defBody s_is_pair, defScope s_is_pair, [], []⟩
def dJ_is_link : He.DefD := ⟨("is_link", none), "is_link", "is_link", defArgs s_is_link, defBody s_is_link, defScope s_is_link, [], []⟩
def dJ_way_between : He.DefD := ⟨("way_between", none), "way_between", "way_between", defArgs s_way_between, defBody s_way_between, defScope s_way_between, [], []⟩
def dJ_is_near : He.DefD := ⟨("is_near", none), "is_near", "is_near", defArgs s_is_near, defBody s_is_near, defScope s_is_near, [], []⟩
def dJ_free_winding : He.DefD := ⟨("free_winding", none), "free_winding", "free_winding", defArgs s_free_winding, defBody s_free_winding, defScope s_free_winding, [], []⟩
def dJ_Links_init : He.DefD := ⟨("Links", some "__init__"), "__init__", "Links.__init__", defArgs s_Links_init, defBody s_Links_init, defScope s_Links_init, [], []⟩
def dJ_Links_classes_found : He.DefD := ⟨("Links", some "classes_found"), "classes_found", "Links.classes_found", defArgs s_Links_classes_found, defBody s_Links_classes_found, defScope s_Links_classes_found, [], []⟩
def dJ_Links_way : He.DefD := ⟨("Links", some "way"), "way", "Links.way", defArgs s_Links_way, defBody s_Links_way, defScope s_Links_way, [], []⟩
def dJ_Links_told : He.DefD := ⟨("Links", some "told"), "told", "Links.told", defArgs s_Links_told, defBody s_Links_told, defScope s_Links_told, [], []⟩
def dJ_check_link : He.DefD := ⟨("check_link", none), "check_link", "check_link", defArgs s_check_link, defBody s_check_link, defScope s_check_link, [], []⟩
def dJ_classes : He.DefD := ⟨("classes", none), "classes", "classes", defArgs s_classes, defBody s_classes, defScope s_classes, [], []⟩
def dJ_links : He.DefD := ⟨("links", none), "links", "links", defArgs s_links, defBody s_links, defScope s_links, [], []⟩
def dJ_walk_by : He.DefD := ⟨("walk_by", none), "walk_by", "walk_by", defArgs s_walk_by, defBody s_walk_by, defScope s_walk_by, [], []⟩
def dJ_references : He.DefD := ⟨("references", none), "references", "references", defArgs s_references, defBody s_references, defScope s_references, [], []⟩
def dJ__law_pail : He.DefD := ⟨("_law_pail", none), "_law_pail", "_law_pail", defArgs s__law_pail, defBody s__law_pail, defScope s__law_pail, [], []⟩
def dJ__law_deal : He.DefD := ⟨("_law_deal", none), "_law_deal", "_law_deal", defArgs s__law_deal, defBody s__law_deal, defScope s__law_deal, [], []⟩
def dJ__law_any : He.DefD := ⟨("_law_any", none), "_law_any", "_law_any", defArgs s__law_any, defBody s__law_any, defScope s__law_any, [], []⟩
def dJ__law_bare_with : He.DefD := ⟨("_law_bare_with", none), "_law_bare_with", "_law_bare_with", defArgs s__law_bare_with, defBody s__law_bare_with, defScope s__law_bare_with, [], []⟩
def dJ__law_same : He.DefD := ⟨("_law_same", none), "_law_same", "_law_same", defArgs s__law_same, defBody s__law_same, defScope s__law_same, [], []⟩
def dJ__law_free_by : He.DefD := ⟨("_law_free_by", none), "_law_free_by", "_law_free_by", defArgs s__law_free_by, defBody s__law_free_by, defScope s__law_free_by, [], []⟩
def dJ__law_pair_right : He.DefD := ⟨("_law_pair_right", none), "_law_pair_right", "_law_pair_right", defArgs s__law_pair_right, defBody s__law_pair_right, defScope s__law_pair_right, [], []⟩
def dJ__law_right : He.DefD := ⟨("_law_right", none), "_law_right", "_law_right", defArgs s__law_right, defBody s__law_right, defScope s__law_right, [], []⟩
def dJ_law : He.DefD := ⟨("law", none), "law", "law", defArgs s_law, defBody s_law, defScope s_law, [], []⟩
def fnJ : List He.DefD := ([dJ_is_whole, dJ_is_number, dJ_is_word, dJ_is_tuple_of, dJ_is_short_tuple, dJ_is_one_of, dJ_is_headed, dJ_check_reach, dJ_bodies_of, dJ_size_of, dJ_items_of, dJ_BareLoop_init, dJ_loops_of, dJ_references_of, dJ_is_plain_item, dJ_is_reference, dJ_is_inner, dJ_is_item, dJ_is_body, dJ_are_lengths, dJ_is_bare_form, dJ_check_bare, dJ_check_loop, dJ_is_pair, dJ_is_link, dJ_way_between, dJ_is_near, dJ_free_winding, dJ_Links_init, dJ_Links_classes_found] : List He.DefD) ++ ([dJ_Links_way, dJ_Links_told, dJ_check_link, dJ_classes, dJ_links, dJ_walk_by, dJ_references, dJ__law_pail, dJ__law_deal, dJ__law_any, dJ__law_bare_with, dJ__law_same, dJ__law_free_by, dJ__law_pair_right, dJ__law_right, dJ_law] : List He.DefD)
def faJ : List He.Fa := ([.glo "is_whole", .glo "is_number", .glo "is_word", .glo "is_tuple_of", .glo "is_short_tuple", .glo "is_one_of", .glo "is_headed", .glo "check_reach", .glo "bodies_of", .glo "size_of", .glo "items_of", .glo "loops_of", .glo "references_of", .glo "is_plain_item", .glo "is_reference", .glo "is_inner", .glo "is_item", .glo "is_body", .glo "are_lengths", .glo "is_bare_form", .glo "check_bare", .glo "check_loop", .glo "is_pair", .glo "is_link", .glo "way_between", .glo "is_near", .glo "free_winding", .glo "check_link", .glo "classes", .glo "links"] : List He.Fa) ++ ([.glo "walk_by", .glo "references", .glo "_law_pail", .glo "_law_deal", .glo "_law_any", .glo "_law_bare_with", .glo "_law_same", .glo "_law_free_by", .glo "_law_pair_right", .glo "_law_right", .glo "law", .glo "BareLoop", .cls "BareLoop", .mkr "BareLoop", .glo "Links", .cls "Links", .mkr "Links", .meth "Links" "classes_found", .meth "Links" "way", .meth "Links" "told", .noat "BareLoop" "at_place", .noat "BareLoop" "own_inner", .noat "BareLoop" "references", .noat "Links" "references", .noat "Links" "least", .noat "Links" "own_reach", .noat "Links" "classes", .noat "Links" "all_links", .noat "Links" "free", .free "isinstance"] : List He.Fa) ++ ([.free "int", .free "bool", .free "tuple", .free "len", .free "str", .free "sum", .free "enumerate", .free "all", .free "range", .free "sorted", .free "abs", .free "divmod", .free "repr", .free "max", .free "min", .int "ROUND" 256, .int "MOST_REACH" 9, .int "MOST_STEP" 9, .int "MOST_OFFSET" 99, .int "MOST_ROWS" 6, .int "MOST_LENGTH" 200, .int "MOST_NAMES" 20, .int "MOST_DEEP" 4, .int "MOST_ITEMS" 600, .int "MOST_LOOPS" 10, .int "MOST_REFERENCES" 40, .int "MOST_WINDING" 207, .int "MOST_TOLD" 1000, .str "LOOP" "loop", .str "TIMES" "times"] : List He.Fa) ++ ([.str "WORD" "word", .glo "REACHING", .glo "NAMED", .glo "LONE"] : List He.Fa)
def tuJ : List (Str × List He.Dv) := [("REACHING", [.str "take", .str "more", .str "less", .str "lay"]), ("NAMED", [.str "name", .str "keep", .str "plus", .str "minus"]), ("LONE", [.str "read", .str "write"])]
def exJ (K : PySem.W.Frag) : Bool := tuJ.all fun q => He.tupB K q.1 q.2
abbrev RJ : PySem.W.OpenRow := PySem.W.OpenLaw.row PySem.Challenge.rw_handrows_k27_main_whole_free_windings_by
abbrev hkJ : PySem.W.Hook := hookB 4 faJ fnJ exJ
def obJ (s : PySem.W.SharedT) : He.AlD × Bool := obsB 4 faJ fnJ exJ (HandSHeadRun.getT s)
theorem obJ_eq (s : PySem.W.SharedT) : obJ s = hkJ.obs s.abs := obsB_eq (HandSHeadRun.getT_eq s)
def looseJ : List Str := (["_wall", "__name__", "HandError", "InvalidNumber", "InvalidBare", "InvalidLink", "ROUND", "MOST_STEP", "MOST_OFFSET", "is_whole", "is_number", "is_word", "is_tuple_of", "is_short_tuple", "is_one_of", "is_headed", "REACHING", "MOST_REACH", "check_reach", "TIMES", "LOOP", "bodies_of", "size_of", "items_of", "BareLoop", "loops_of", "references_of", "MOST_NAMES", "MOST_ROWS", "MOST_LENGTH"] : List Str) ++ (["MOST_DEEP", "MOST_ITEMS", "MOST_LOOPS", "MOST_REFERENCES", "WORD", "NAMED", "LONE", "is_plain_item", "is_reference", "is_inner", "is_item", "is_body", "are_lengths", "is_bare_form", "check_bare", "check_loop", "is_pair", "is_link", "MOST_WINDING", "way_between", "is_near", "free_winding", "Links", "check_link", "MOST_TOLD", "classes", "links", "walk_by", "references", "_law_pail"] : List Str) ++ (["_law_deal", "_law_any", "_law_bare_with", "_law_same", "_law_free_by", "_law_pair_right", "_law_right"] : List Str)
theorem runJ (w : World) : HandSHeadRun.RunEq RJ (PySem.W.view RJ.prog [78]) hkJ obJ 20000 looseJ w := by
  intro os
  kernel_rfl
end DS.Lw
/-! the bundle (printed by gen.py) -/
namespace DS.Lw
open PySem L2 PySem.Spec PyProof.Rows
structure Jn (K : PySem.W.Frag) (mg : Str → Option Value) (h : Heap) : Prop where
  X : K.In h
  G : h.Ns mainGlobals mg
  c : He.SaysD faJ fnJ K
  e : exJ K = true
section
variable {P : Program} {w : World} {K : PySem.W.Frag} {mg : Str → Option Value} {h base : Heap}
theorem txJ (J : Jn K mg h) : Tx K mg :=
  ⟨He.free_ok J.X J.G (J.c.fact 59 (f := .free "isinstance") rfl),
   He.free_ok J.X J.G (J.c.fact 60 (f := .free "int") rfl),
   He.free_ok J.X J.G (J.c.fact 61 (f := .free "bool") rfl),
   He.free_ok J.X J.G (J.c.fact 62 (f := .free "tuple") rfl),
   He.free_ok J.X J.G (J.c.fact 63 (f := .free "len") rfl),
   He.free_ok J.X J.G (J.c.fact 64 (f := .free "str") rfl),
   He.free_ok J.X J.G (J.c.fact 65 (f := .free "sum") rfl),
   He.free_ok J.X J.G (J.c.fact 66 (f := .free "enumerate") rfl),
   He.free_ok J.X J.G (J.c.fact 67 (f := .free "all") rfl),
   He.free_ok J.X J.G (J.c.fact 68 (f := .free "range") rfl),
   He.free_ok J.X J.G (J.c.fact 69 (f := .free "sorted") rfl),
   He.free_ok J.X J.G (J.c.fact 70 (f := .free "abs") rfl),
   He.free_ok J.X J.G (J.c.fact 71 (f := .free "divmod") rfl),
   He.free_ok J.X J.G (J.c.fact 72 (f := .free "repr") rfl),
   He.free_ok J.X J.G (J.c.fact 73 (f := .free "max") rfl),
   He.free_ok J.X J.G (J.c.fact 74 (f := .free "min") rfl),
   He.int_ok J.X J.G (J.c.fact 75 (f := .int "ROUND" 256) rfl),
   He.int_ok J.X J.G (J.c.fact 76 (f := .int "MOST_REACH" 9) rfl),
   He.int_ok J.X J.G (J.c.fact 77 (f := .int "MOST_STEP" 9) rfl),
   He.int_ok J.X J.G (J.c.fact 78 (f := .int "MOST_OFFSET" 99) rfl),
   He.int_ok J.X J.G (J.c.fact 79 (f := .int "MOST_ROWS" 6) rfl),
   He.int_ok J.X J.G (J.c.fact 80 (f := .int "MOST_LENGTH" 200) rfl),
   He.int_ok J.X J.G (J.c.fact 81 (f := .int "MOST_NAMES" 20) rfl),
   He.int_ok J.X J.G (J.c.fact 82 (f := .int "MOST_DEEP" 4) rfl),
   He.int_ok J.X J.G (J.c.fact 83 (f := .int "MOST_ITEMS" 600) rfl),
   He.int_ok J.X J.G (J.c.fact 84 (f := .int "MOST_LOOPS" 10) rfl),
   He.int_ok J.X J.G (J.c.fact 85 (f := .int "MOST_REFERENCES" 40) rfl),
   He.int_ok J.X J.G (J.c.fact 86 (f := .int "MOST_WINDING" 207) rfl),
   He.int_ok J.X J.G (J.c.fact 87 (f := .int "MOST_TOLD" 1000) rfl),
   He.str_ok J.X J.G (J.c.fact 88 (f := .str "LOOP" "loop") rfl),
   He.str_ok J.X J.G (J.c.fact 89 (f := .str "TIMES" "times") rfl),
   He.str_ok J.X J.G (J.c.fact 90 (f := .str "WORD" "word") rfl),
   ⟨_, _, He.glo_ok J.X J.G (J.c.fact 91 (f := .glo "REACHING") rfl), He.tupB_ok (List.all_eq_true.mp J.e _ (List.mem_of_getElem? (i := 0) rfl)), fun _ => (.cons (.str _) (.cons (.str _) (.cons (.str _) (.cons (.str _) .nil))))⟩,
   ⟨_, _, He.glo_ok J.X J.G (J.c.fact 92 (f := .glo "NAMED") rfl), He.tupB_ok (List.all_eq_true.mp J.e _ (List.mem_of_getElem? (i := 1) rfl)), fun _ => (.cons (.str _) (.cons (.str _) (.cons (.str _) (.cons (.str _) .nil))))⟩,
   ⟨_, _, He.glo_ok J.X J.G (J.c.fact 93 (f := .glo "LONE") rfl), He.tupB_ok (List.all_eq_true.mp J.e _ (List.mem_of_getElem? (i := 2) rfl)), fun _ => (.cons (.str _) (.cons (.str _) .nil))⟩,
   hasF1 (He.glo_ok J.X J.G (J.c.fact 41 (f := .glo "BareLoop") rfl)) (He.cls_ok (J.c.fact 42 (f := .cls "BareLoop") rfl)) (He.noat_ok (J.c.fact 50 (f := .noat "BareLoop" "at_place") rfl)),
   hasF1 (He.glo_ok J.X J.G (J.c.fact 41 (f := .glo "BareLoop") rfl)) (He.cls_ok (J.c.fact 42 (f := .cls "BareLoop") rfl)) (He.noat_ok (J.c.fact 51 (f := .noat "BareLoop" "own_inner") rfl)),
   hasF2 (He.glo_ok J.X J.G (J.c.fact 41 (f := .glo "BareLoop") rfl)) (He.cls_ok (J.c.fact 42 (f := .cls "BareLoop") rfl)) (He.noat_ok (J.c.fact 52 (f := .noat "BareLoop" "references") rfl)) (He.glo_ok J.X J.G (J.c.fact 44 (f := .glo "Links") rfl)) (He.cls_ok (J.c.fact 45 (f := .cls "Links") rfl)) (He.noat_ok (J.c.fact 53 (f := .noat "Links" "references") rfl)),
   hasF1 (He.glo_ok J.X J.G (J.c.fact 44 (f := .glo "Links") rfl)) (He.cls_ok (J.c.fact 45 (f := .cls "Links") rfl)) (He.noat_ok (J.c.fact 54 (f := .noat "Links" "least") rfl)),
   hasF1 (He.glo_ok J.X J.G (J.c.fact 44 (f := .glo "Links") rfl)) (He.cls_ok (J.c.fact 45 (f := .cls "Links") rfl)) (He.noat_ok (J.c.fact 55 (f := .noat "Links" "own_reach") rfl)),
   hasF1 (He.glo_ok J.X J.G (J.c.fact 44 (f := .glo "Links") rfl)) (He.cls_ok (J.c.fact 45 (f := .cls "Links") rfl)) (He.noat_ok (J.c.fact 56 (f := .noat "Links" "classes") rfl)),
   hasF1 (He.glo_ok J.X J.G (J.c.fact 44 (f := .glo "Links") rfl)) (He.cls_ok (J.c.fact 45 (f := .cls "Links") rfl)) (He.noat_ok (J.c.fact 57 (f := .noat "Links" "all_links") rfl)),
   hasF1 (He.glo_ok J.X J.G (J.c.fact 44 (f := .glo "Links") rfl)) (He.cls_ok (J.c.fact 45 (f := .cls "Links") rfl)) (He.noat_ok (J.c.fact 58 (f := .noat "Links" "free") rfl))⟩
theorem G_is_whole (J : Jn K mg h) {fd : FuncData} (F : FunD K "is_whole" "is_whole" (defArgs s_is_whole) (defBody s_is_whole) (defScope s_is_whole) [] [] (He.fAd K ("is_whole", none)) fd) : FnG P w K mg base L2.CX0 1 (He.fAd K ("is_whole", none)) fd ["value"] (spD K mg 1 m_is_whole) := ok_is_whole (txJ J)  F
theorem J_d_is_whole (J : Jn K mg h) : Cd P w K mg base 1 "is_whole" 1 m_is_whole [] := by
  obtain ⟨fd, F0⟩ := J.c.def_ 0 (d := dJ_is_whole) rfl
  have F : FunD K "is_whole" "is_whole" (defArgs s_is_whole) (defBody s_is_whole) (defScope s_is_whole) [] [] (He.fAd K ("is_whole", none)) fd := F0
  exact ⟨_, fd, ["value"], [], [], (G_is_whole J F), arity_F, He.glo_ok J.X J.G (J.c.fact 0 (f := .glo "is_whole") rfl), F.kp, (F.bindsN fun _ _ _ _ _ _ us hl => match us, hl with | [_], _ => rfl), .nil, fun _ => .nil⟩
theorem G_is_number (J : Jn K mg h) {fd : FuncData} (F : FunD K "is_number" "is_number" (defArgs s_is_number) (defBody s_is_number) (defScope s_is_number) [V.non] [] (He.fAd K ("is_number", none)) fd) : FnG P w K mg base L2.CX0 2 (He.fAd K ("is_number", none)) fd ["value", "low", "most"] (spD K mg 3 m_is_number) := ok_is_number (txJ J) (J_d_is_whole J) F
theorem J_d_is_number (J : Jn K mg h) : Cd P w K mg base 2 "is_number" 3 m_is_number [] := by
  obtain ⟨fd, F0⟩ := J.c.def_ 1 (d := dJ_is_number) rfl
  have F : FunD K "is_number" "is_number" (defArgs s_is_number) (defBody s_is_number) (defScope s_is_number) [V.non] [] (He.fAd K ("is_number", none)) fd := F0
  obtain ⟨ds, vds, bds⟩ := F.binds1 (ps := ["value", "low", "most"]) 3 1 (by decide) rfl fun T _ _ _ _ _ _ us its hl hi => match us, its, hl, hi with | [_, _, _], [_], _, _ => ⟨_, rfl, rfl⟩
  exact ⟨_, fd, ["value", "low", "most"], _, ds, (G_is_number J F), arity_F, He.glo_ok J.X J.G (J.c.fact 1 (f := .glo "is_number") rfl), F.kp, bds, vds, fun _ => .nil⟩
theorem G_is_word (J : Jn K mg h) {fd : FuncData} (F : FunD K "is_word" "is_word" (defArgs s_is_word) (defBody s_is_word) (defScope s_is_word) [] [] (He.fAd K ("is_word", none)) fd) : FnG P w K mg base L2.CX0 3 (He.fAd K ("is_word", none)) fd ["value"] (spD K mg 1 m_is_word) := ok_is_word (txJ J) (J_d_is_number J) F
theorem J_d_is_word (J : Jn K mg h) : Cd P w K mg base 3 "is_word" 1 m_is_word [] := by
  obtain ⟨fd, F0⟩ := J.c.def_ 2 (d := dJ_is_word) rfl
  have F : FunD K "is_word" "is_word" (defArgs s_is_word) (defBody s_is_word) (defScope s_is_word) [] [] (He.fAd K ("is_word", none)) fd := F0
  exact ⟨_, fd, ["value"], [], [], (G_is_word J F), arity_F, He.glo_ok J.X J.G (J.c.fact 2 (f := .glo "is_word") rfl), F.kp, (F.bindsN fun _ _ _ _ _ _ us hl => match us, hl with | [_], _ => rfl), .nil, fun _ => .nil⟩
theorem G_is_tuple_of (J : Jn K mg h) {fd : FuncData} (F : FunD K "is_tuple_of" "is_tuple_of" (defArgs s_is_tuple_of) (defBody s_is_tuple_of) (defScope s_is_tuple_of) [] [] (He.fAd K ("is_tuple_of", none)) fd) : FnG P w K mg base L2.CX0 1 (He.fAd K ("is_tuple_of", none)) fd ["value", "many"] (spD K mg 2 m_is_tuple_of) := ok_is_tuple_of (txJ J)  F
theorem J_d_is_tuple_of (J : Jn K mg h) : Cd P w K mg base 1 "is_tuple_of" 2 m_is_tuple_of [] := by
  obtain ⟨fd, F0⟩ := J.c.def_ 3 (d := dJ_is_tuple_of) rfl
  have F : FunD K "is_tuple_of" "is_tuple_of" (defArgs s_is_tuple_of) (defBody s_is_tuple_of) (defScope s_is_tuple_of) [] [] (He.fAd K ("is_tuple_of", none)) fd := F0
  exact ⟨_, fd, ["value", "many"], [], [], (G_is_tuple_of J F), arity_F, He.glo_ok J.X J.G (J.c.fact 3 (f := .glo "is_tuple_of") rfl), F.kp, (F.bindsN fun _ _ _ _ _ _ us hl => match us, hl with | [_, _], _ => rfl), .nil, fun _ => .nil⟩
theorem G_is_short_tuple (J : Jn K mg h) {fd : FuncData} (F : FunD K "is_short_tuple" "is_short_tuple" (defArgs s_is_short_tuple) (defBody s_is_short_tuple) (defScope s_is_short_tuple) [] [] (He.fAd K ("is_short_tuple", none)) fd) : FnG P w K mg base L2.CX0 1 (He.fAd K ("is_short_tuple", none)) fd ["value", "low", "most"] (spD K mg 3 m_is_short_tuple) := ok_is_short_tuple (txJ J)  F
theorem J_d_is_short_tuple (J : Jn K mg h) : Cd P w K mg base 1 "is_short_tuple" 3 m_is_short_tuple [] := by
  obtain ⟨fd, F0⟩ := J.c.def_ 4 (d := dJ_is_short_tuple) rfl
  have F : FunD K "is_short_tuple" "is_short_tuple" (defArgs s_is_short_tuple) (defBody s_is_short_tuple) (defScope s_is_short_tuple) [] [] (He.fAd K ("is_short_tuple", none)) fd := F0
  exact ⟨_, fd, ["value", "low", "most"], [], [], (G_is_short_tuple J F), arity_F, He.glo_ok J.X J.G (J.c.fact 4 (f := .glo "is_short_tuple") rfl), F.kp, (F.bindsN fun _ _ _ _ _ _ us hl => match us, hl with | [_, _, _], _ => rfl), .nil, fun _ => .nil⟩
theorem G_is_one_of (J : Jn K mg h) {fd : FuncData} (F : FunD K "is_one_of" "is_one_of" (defArgs s_is_one_of) (defBody s_is_one_of) (defScope s_is_one_of) [] [] (He.fAd K ("is_one_of", none)) fd) : FnG P w K mg base L2.CX0 1 (He.fAd K ("is_one_of", none)) fd ["value", "some"] (spD K mg 2 m_is_one_of) := ok_is_one_of (txJ J)  F
theorem J_d_is_one_of (J : Jn K mg h) : Cd P w K mg base 1 "is_one_of" 2 m_is_one_of [] := by
  obtain ⟨fd, F0⟩ := J.c.def_ 5 (d := dJ_is_one_of) rfl
  have F : FunD K "is_one_of" "is_one_of" (defArgs s_is_one_of) (defBody s_is_one_of) (defScope s_is_one_of) [] [] (He.fAd K ("is_one_of", none)) fd := F0
  exact ⟨_, fd, ["value", "some"], [], [], (G_is_one_of J F), arity_F, He.glo_ok J.X J.G (J.c.fact 5 (f := .glo "is_one_of") rfl), F.kp, (F.bindsN fun _ _ _ _ _ _ us hl => match us, hl with | [_, _], _ => rfl), .nil, fun _ => .nil⟩
theorem G_is_headed (J : Jn K mg h) {fd : FuncData} (F : FunD K "is_headed" "is_headed" (defArgs s_is_headed) (defBody s_is_headed) (defScope s_is_headed) [] [] (He.fAd K ("is_headed", none)) fd) : FnG P w K mg base L2.CX0 1 (He.fAd K ("is_headed", none)) fd ["value"] (spD K mg 1 m_is_headed) := ok_is_headed (txJ J)  F
theorem J_d_is_headed (J : Jn K mg h) : Cd P w K mg base 1 "is_headed" 1 m_is_headed [] := by
  obtain ⟨fd, F0⟩ := J.c.def_ 6 (d := dJ_is_headed) rfl
  have F : FunD K "is_headed" "is_headed" (defArgs s_is_headed) (defBody s_is_headed) (defScope s_is_headed) [] [] (He.fAd K ("is_headed", none)) fd := F0
  exact ⟨_, fd, ["value"], [], [], (G_is_headed J F), arity_F, He.glo_ok J.X J.G (J.c.fact 6 (f := .glo "is_headed") rfl), F.kp, (F.bindsN fun _ _ _ _ _ _ us hl => match us, hl with | [_], _ => rfl), .nil, fun _ => .nil⟩
theorem G_check_reach (J : Jn K mg h) {fd : FuncData} (F : FunD K "check_reach" "check_reach" (defArgs s_check_reach) (defBody s_check_reach) (defScope s_check_reach) [] [] (He.fAd K ("check_reach", none)) fd) : FnG P w K mg base L2.CX0 3 (He.fAd K ("check_reach", none)) fd ["value"] (spD K mg 1 m_check_reach) := ok_check_reach (txJ J) (J_d_is_number J) F
theorem J_d_check_reach (J : Jn K mg h) : Cd P w K mg base 3 "check_reach" 1 m_check_reach [] := by
  obtain ⟨fd, F0⟩ := J.c.def_ 7 (d := dJ_check_reach) rfl
  have F : FunD K "check_reach" "check_reach" (defArgs s_check_reach) (defBody s_check_reach) (defScope s_check_reach) [] [] (He.fAd K ("check_reach", none)) fd := F0
  exact ⟨_, fd, ["value"], [], [], (G_check_reach J F), arity_F, He.glo_ok J.X J.G (J.c.fact 7 (f := .glo "check_reach") rfl), F.kp, (F.bindsN fun _ _ _ _ _ _ us hl => match us, hl with | [_], _ => rfl), .nil, fun _ => .nil⟩
theorem G_bodies_of (J : Jn K mg h) {fd : FuncData} (F : FunD K "bodies_of" "bodies_of" (defArgs s_bodies_of) (defBody s_bodies_of) (defScope s_bodies_of) [] [] (He.fAd K ("bodies_of", none)) fd) : FnG P w K mg base L2.CX0 1 (He.fAd K ("bodies_of", none)) fd ["item"] (spD K mg 1 m_bodies_of) := ok_bodies_of (txJ J)  F
theorem J_d_bodies_of (J : Jn K mg h) : Cd P w K mg base 1 "bodies_of" 1 m_bodies_of [] := by
  obtain ⟨fd, F0⟩ := J.c.def_ 8 (d := dJ_bodies_of) rfl
  have F : FunD K "bodies_of" "bodies_of" (defArgs s_bodies_of) (defBody s_bodies_of) (defScope s_bodies_of) [] [] (He.fAd K ("bodies_of", none)) fd := F0
  exact ⟨_, fd, ["item"], [], [], (G_bodies_of J F), arity_F, He.glo_ok J.X J.G (J.c.fact 8 (f := .glo "bodies_of") rfl), F.kp, (F.bindsN fun _ _ _ _ _ _ us hl => match us, hl with | [_], _ => rfl), .nil, fun _ => .nil⟩
theorem J_d_size_of_at (J : Jn K mg h) : ∀ n : Nat, Cd P w K mg base (2 + 1 * n) "size_of" 1 (m_size_of n) []
  | 0 => by
    obtain ⟨fd, F0⟩ := J.c.def_ 9 (d := dJ_size_of) rfl
    have F : FunD K "size_of" "size_of" (defArgs s_size_of) (defBody s_size_of) (defScope s_size_of) [] [] (He.fAd K ("size_of", none)) fd := F0
    exact ⟨_, fd, ["body"], [], [], (fnG_stuck rfl), arity_stuck, He.glo_ok J.X J.G (J.c.fact 9 (f := .glo "size_of") rfl), F.kp, (F.bindsN fun _ _ _ _ _ _ us hl => match us, hl with | [_], _ => rfl), .nil, fun _ => .nil⟩
  | n + 1 => by
    have hs := J_d_size_of_at J n
    obtain ⟨fd, F0⟩ := J.c.def_ 9 (d := dJ_size_of) rfl
    have F : FunD K "size_of" "size_of" (defArgs s_size_of) (defBody s_size_of) (defScope s_size_of) [] [] (He.fAd K ("size_of", none)) fd := F0
    exact ⟨_, fd, ["body"], [], [], (ok_size_of (txJ J) (by omega) (J_d_bodies_of J) hs F), arity_F, He.glo_ok J.X J.G (J.c.fact 9 (f := .glo "size_of") rfl), F.kp, (F.bindsN fun _ _ _ _ _ _ us hl => match us, hl with | [_], _ => rfl), .nil, fun _ => .nil⟩
theorem J_d_size_of (J : Jn K mg h) : Cd P w K mg base 14 "size_of" 1 (m_size_of 12) [] := J_d_size_of_at J 12
theorem J_d_items_of_at (J : Jn K mg h) : ∀ n : Nat, Cd P w K mg base (2 + 1 * n) "items_of" 1 (m_items_of n) []
  | 0 => by
    obtain ⟨fd, F0⟩ := J.c.def_ 10 (d := dJ_items_of) rfl
    have F : FunD K "items_of" "items_of" (defArgs s_items_of) (defBody s_items_of) (defScope s_items_of) [] [] (He.fAd K ("items_of", none)) fd := F0
    exact ⟨_, fd, ["body"], [], [], (fnG_stuck rfl), arity_stuck, He.glo_ok J.X J.G (J.c.fact 10 (f := .glo "items_of") rfl), F.kp, (F.bindsN fun _ _ _ _ _ _ us hl => match us, hl with | [_], _ => rfl), .nil, fun _ => .nil⟩
  | n + 1 => by
    have hs := J_d_items_of_at J n
    obtain ⟨fd, F0⟩ := J.c.def_ 10 (d := dJ_items_of) rfl
    have F : FunD K "items_of" "items_of" (defArgs s_items_of) (defBody s_items_of) (defScope s_items_of) [] [] (He.fAd K ("items_of", none)) fd := F0
    exact ⟨_, fd, ["body"], [], [], (ok_items_of (txJ J) (by omega) (J_d_bodies_of J) hs F), arity_F, He.glo_ok J.X J.G (J.c.fact 10 (f := .glo "items_of") rfl), F.kp, (F.bindsN fun _ _ _ _ _ _ us hl => match us, hl with | [_], _ => rfl), .nil, fun _ => .nil⟩
theorem J_d_items_of (J : Jn K mg h) : Cd P w K mg base 14 "items_of" 1 (m_items_of 12) [] := J_d_items_of_at J 12
theorem G_BareLoop_init (J : Jn K mg h) {fd : FuncData} (F : FunD K "__init__" "BareLoop.__init__" (defArgs s_BareLoop_init) (defBody s_BareLoop_init) (defScope s_BareLoop_init) [] [] (He.fAd K ("BareLoop", some "__init__")) fd) : FnG P w K mg base L2.CX0 1 (He.fAd K ("BareLoop", some "__init__")) fd ["self", "place", "inner"] (spD K mg 3 m_BareLoop_init) := ok_BareLoop_init (txJ J)  F
theorem J_mk_BareLoop_init (J : Jn K mg h) : Cc P w K mg base 1 "BareLoop" 3 m_BareLoop_init [] := by
  obtain ⟨fd, F0⟩ := J.c.def_ 11 (d := dJ_BareLoop_init) rfl
  have F : FunD K "__init__" "BareLoop.__init__" (defArgs s_BareLoop_init) (defBody s_BareLoop_init) (defScope s_BareLoop_init) [] [] (He.fAd K ("BareLoop", some "__init__")) fd := F0
  exact ⟨_, _, fd, ["self", "place", "inner"], [], [], He.glo_ok J.X J.G (J.c.fact 41 (f := .glo "BareLoop") rfl), He.mkr_ok (J.c.fact 43 (f := .mkr "BareLoop") rfl), (G_BareLoop_init J F), arity_K, (F.bindsN fun _ _ _ _ _ _ us hl => match us, hl with | [_, _, _], _ => rfl), .nil, fun _ => .nil⟩
theorem G_loops_of (J : Jn K mg h) {fd : FuncData} (F : FunD K "loops_of" "loops_of" (defArgs s_loops_of) (defBody s_loops_of) (defScope s_loops_of) [] [] (He.fAd K ("loops_of", none)) fd) : FnG P w K mg base L2.CX0 15 (He.fAd K ("loops_of", none)) fd ["body"] (spD K mg 1 m_loops_of) := ok_loops_of (txJ J) (J_d_items_of J) (J_mk_BareLoop_init J) F
theorem J_d_loops_of (J : Jn K mg h) : Cd P w K mg base 15 "loops_of" 1 m_loops_of [] := by
  obtain ⟨fd, F0⟩ := J.c.def_ 12 (d := dJ_loops_of) rfl
  have F : FunD K "loops_of" "loops_of" (defArgs s_loops_of) (defBody s_loops_of) (defScope s_loops_of) [] [] (He.fAd K ("loops_of", none)) fd := F0
  exact ⟨_, fd, ["body"], [], [], (G_loops_of J F), arity_F, He.glo_ok J.X J.G (J.c.fact 11 (f := .glo "loops_of") rfl), F.kp, (F.bindsN fun _ _ _ _ _ _ us hl => match us, hl with | [_], _ => rfl), .nil, fun _ => .nil⟩
theorem G_references_of (J : Jn K mg h) {fd : FuncData} (F : FunD K "references_of" "references_of" (defArgs s_references_of) (defBody s_references_of) (defScope s_references_of) [] [] (He.fAd K ("references_of", none)) fd) : FnG P w K mg base L2.CX0 16 (He.fAd K ("references_of", none)) fd ["bare", "loop"] (spD K mg 2 m_references_of) := ok_references_of (txJ J) (J_d_loops_of J) F
theorem J_d_references_of (J : Jn K mg h) : Cd P w K mg base 16 "references_of" 2 m_references_of [] := by
  obtain ⟨fd, F0⟩ := J.c.def_ 13 (d := dJ_references_of) rfl
  have F : FunD K "references_of" "references_of" (defArgs s_references_of) (defBody s_references_of) (defScope s_references_of) [] [] (He.fAd K ("references_of", none)) fd := F0
  exact ⟨_, fd, ["bare", "loop"], [], [], (G_references_of J F), arity_F, He.glo_ok J.X J.G (J.c.fact 12 (f := .glo "references_of") rfl), F.kp, (F.bindsN fun _ _ _ _ _ _ us hl => match us, hl with | [_, _], _ => rfl), .nil, fun _ => .nil⟩
theorem G_is_plain_item (J : Jn K mg h) {fd : FuncData} (F : FunD K "is_plain_item" "is_plain_item" (defArgs s_is_plain_item) (defBody s_is_plain_item) (defScope s_is_plain_item) [] [] (He.fAd K ("is_plain_item", none)) fd) : FnG P w K mg base L2.CX0 4 (He.fAd K ("is_plain_item", none)) fd ["value", "many_names"] (spD K mg 2 m_is_plain_item) := ok_is_plain_item (txJ J) (J_d_is_tuple_of J) (J_d_is_headed J) (J_d_is_word J) (J_d_is_one_of J) (J_d_is_number J) F
theorem J_d_is_plain_item (J : Jn K mg h) : Cd P w K mg base 4 "is_plain_item" 2 m_is_plain_item [] := by
  obtain ⟨fd, F0⟩ := J.c.def_ 14 (d := dJ_is_plain_item) rfl
  have F : FunD K "is_plain_item" "is_plain_item" (defArgs s_is_plain_item) (defBody s_is_plain_item) (defScope s_is_plain_item) [] [] (He.fAd K ("is_plain_item", none)) fd := F0
  exact ⟨_, fd, ["value", "many_names"], [], [], (G_is_plain_item J F), arity_F, He.glo_ok J.X J.G (J.c.fact 13 (f := .glo "is_plain_item") rfl), F.kp, (F.bindsN fun _ _ _ _ _ _ us hl => match us, hl with | [_, _], _ => rfl), .nil, fun _ => .nil⟩
theorem G_is_reference (J : Jn K mg h) {fd : FuncData} (F : FunD K "is_reference" "is_reference" (defArgs s_is_reference) (defBody s_is_reference) (defScope s_is_reference) [] [] (He.fAd K ("is_reference", none)) fd) : FnG P w K mg base L2.CX0 3 (He.fAd K ("is_reference", none)) fd ["value", "many_rows"] (spD K mg 2 m_is_reference) := ok_is_reference (txJ J) (J_d_is_tuple_of J) (J_d_is_headed J) (J_d_is_one_of J) (J_d_is_number J) F
theorem J_d_is_reference (J : Jn K mg h) : Cd P w K mg base 3 "is_reference" 2 m_is_reference [] := by
  obtain ⟨fd, F0⟩ := J.c.def_ 15 (d := dJ_is_reference) rfl
  have F : FunD K "is_reference" "is_reference" (defArgs s_is_reference) (defBody s_is_reference) (defScope s_is_reference) [] [] (He.fAd K ("is_reference", none)) fd := F0
  exact ⟨_, fd, ["value", "many_rows"], [], [], (G_is_reference J F), arity_F, He.glo_ok J.X J.G (J.c.fact 14 (f := .glo "is_reference") rfl), F.kp, (F.bindsN fun _ _ _ _ _ _ us hl => match us, hl with | [_, _], _ => rfl), .nil, fun _ => .nil⟩
theorem G_is_inner (J : Jn K mg h) {fd : FuncData} (F : FunD K "is_inner" "is_inner" (defArgs s_is_inner) (defBody s_is_inner) (defScope s_is_inner) [] [] (He.fAd K ("is_inner", none)) fd) : FnG P w K mg base L2.CX0 5 (He.fAd K ("is_inner", none)) fd ["value", "many_names", "many_rows"] (spD K mg 3 m_is_inner) := ok_is_inner (txJ J) (J_d_is_plain_item J) (J_d_is_reference J) F
theorem J_d_is_inner (J : Jn K mg h) : Cd P w K mg base 5 "is_inner" 3 m_is_inner [] := by
  obtain ⟨fd, F0⟩ := J.c.def_ 16 (d := dJ_is_inner) rfl
  have F : FunD K "is_inner" "is_inner" (defArgs s_is_inner) (defBody s_is_inner) (defScope s_is_inner) [] [] (He.fAd K ("is_inner", none)) fd := F0
  exact ⟨_, fd, ["value", "many_names", "many_rows"], [], [], (G_is_inner J F), arity_F, He.glo_ok J.X J.G (J.c.fact 15 (f := .glo "is_inner") rfl), F.kp, (F.bindsN fun _ _ _ _ _ _ us hl => match us, hl with | [_, _, _], _ => rfl), .nil, fun _ => .nil⟩
theorem J_d_is_body_at (J : Jn K mg h) : ∀ n : Nat, Cd P w K mg base (6 + 2 * n) "is_body" 4 (m_is_body n) []
  | 0 => by
    obtain ⟨fd, F0⟩ := J.c.def_ 18 (d := dJ_is_body) rfl
    have F : FunD K "is_body" "is_body" (defArgs s_is_body) (defBody s_is_body) (defScope s_is_body) [] [] (He.fAd K ("is_body", none)) fd := F0
    exact ⟨_, fd, ["value", "many_names", "many_rows", "deep"], [], [], (fnG_stuck rfl), arity_stuck, He.glo_ok J.X J.G (J.c.fact 17 (f := .glo "is_body") rfl), F.kp, (F.bindsN fun _ _ _ _ _ _ us hl => match us, hl with | [_, _, _, _], _ => rfl), .nil, fun _ => .nil⟩
  | n + 1 => by
    have hs := J_d_is_body_at J n
    have h_is_item : Cd P w K mg base (6 + 2 * n + 1) "is_item" 4 (m_is_item (m_is_body n)) [] := by
      obtain ⟨fd, F0⟩ := J.c.def_ 17 (d := dJ_is_item) rfl
      have F : FunD K "is_item" "is_item" (defArgs s_is_item) (defBody s_is_item) (defScope s_is_item) [] [] (He.fAd K ("is_item", none)) fd := F0
      exact ⟨_, fd, ["value", "many_names", "many_rows", "deep"], [], [], (ok_is_item (txJ J) (by omega) (J_d_is_tuple_of J) (J_d_is_headed J) hs (J_d_is_inner J) (J_d_is_plain_item J) F), arity_F, He.glo_ok J.X J.G (J.c.fact 16 (f := .glo "is_item") rfl), F.kp, (F.bindsN fun _ _ _ _ _ _ us hl => match us, hl with | [_, _, _, _], _ => rfl), .nil, fun _ => .nil⟩
    obtain ⟨fd, F0⟩ := J.c.def_ 18 (d := dJ_is_body) rfl
    have F : FunD K "is_body" "is_body" (defArgs s_is_body) (defBody s_is_body) (defScope s_is_body) [] [] (He.fAd K ("is_body", none)) fd := F0
    exact ⟨_, fd, ["value", "many_names", "many_rows", "deep"], [], [], (ok_is_body (txJ J) (by omega) h_is_item F), arity_F, He.glo_ok J.X J.G (J.c.fact 17 (f := .glo "is_body") rfl), F.kp, (F.bindsN fun _ _ _ _ _ _ us hl => match us, hl with | [_, _, _, _], _ => rfl), .nil, fun _ => .nil⟩
theorem J_d_is_body (J : Jn K mg h) : Cd P w K mg base 30 "is_body" 4 (m_is_body 12) [] := J_d_is_body_at J 12
theorem G_are_lengths (J : Jn K mg h) {fd : FuncData} (F : FunD K "are_lengths" "are_lengths" (defArgs s_are_lengths) (defBody s_are_lengths) (defScope s_are_lengths) [] [] (He.fAd K ("are_lengths", none)) fd) : FnG P w K mg base L2.CX0 3 (He.fAd K ("are_lengths", none)) fd ["value"] (spD K mg 1 m_are_lengths) := ok_are_lengths (txJ J) (J_d_is_short_tuple J) (J_d_is_number J) F
theorem J_d_are_lengths (J : Jn K mg h) : Cd P w K mg base 3 "are_lengths" 1 m_are_lengths [] := by
  obtain ⟨fd, F0⟩ := J.c.def_ 19 (d := dJ_are_lengths) rfl
  have F : FunD K "are_lengths" "are_lengths" (defArgs s_are_lengths) (defBody s_are_lengths) (defScope s_are_lengths) [] [] (He.fAd K ("are_lengths", none)) fd := F0
  exact ⟨_, fd, ["value"], [], [], (G_are_lengths J F), arity_F, He.glo_ok J.X J.G (J.c.fact 18 (f := .glo "are_lengths") rfl), F.kp, (F.bindsN fun _ _ _ _ _ _ us hl => match us, hl with | [_], _ => rfl), .nil, fun _ => .nil⟩
theorem G_is_bare_form (J : Jn K mg h) {fd : FuncData} (F : FunD K "is_bare_form" "is_bare_form" (defArgs s_is_bare_form) (defBody s_is_bare_form) (defScope s_is_bare_form) [] [] (He.fAd K ("is_bare_form", none)) fd) : FnG P w K mg base L2.CX0 31 (He.fAd K ("is_bare_form", none)) fd ["value"] (spD K mg 1 m_is_bare_form) := ok_is_bare_form (txJ J) (J_d_is_tuple_of J) (J_d_is_number J) (J_d_are_lengths J) (J_d_is_body J) (J_d_loops_of J) (J_d_size_of J) F
theorem J_d_is_bare_form (J : Jn K mg h) : Cd P w K mg base 31 "is_bare_form" 1 m_is_bare_form [] := by
  obtain ⟨fd, F0⟩ := J.c.def_ 20 (d := dJ_is_bare_form) rfl
  have F : FunD K "is_bare_form" "is_bare_form" (defArgs s_is_bare_form) (defBody s_is_bare_form) (defScope s_is_bare_form) [] [] (He.fAd K ("is_bare_form", none)) fd := F0
  exact ⟨_, fd, ["value"], [], [], (G_is_bare_form J F), arity_F, He.glo_ok J.X J.G (J.c.fact 19 (f := .glo "is_bare_form") rfl), F.kp, (F.bindsN fun _ _ _ _ _ _ us hl => match us, hl with | [_], _ => rfl), .nil, fun _ => .nil⟩
theorem G_check_bare (J : Jn K mg h) {fd : FuncData} (F : FunD K "check_bare" "check_bare" (defArgs s_check_bare) (defBody s_check_bare) (defScope s_check_bare) [] [] (He.fAd K ("check_bare", none)) fd) : FnG P w K mg base L2.CX0 32 (He.fAd K ("check_bare", none)) fd ["value"] (spD K mg 1 m_check_bare) := ok_check_bare (txJ J) (J_d_is_bare_form J) F
theorem J_d_check_bare (J : Jn K mg h) : Cd P w K mg base 32 "check_bare" 1 m_check_bare [] := by
  obtain ⟨fd, F0⟩ := J.c.def_ 21 (d := dJ_check_bare) rfl
  have F : FunD K "check_bare" "check_bare" (defArgs s_check_bare) (defBody s_check_bare) (defScope s_check_bare) [] [] (He.fAd K ("check_bare", none)) fd := F0
  exact ⟨_, fd, ["value"], [], [], (G_check_bare J F), arity_F, He.glo_ok J.X J.G (J.c.fact 20 (f := .glo "check_bare") rfl), F.kp, (F.bindsN fun _ _ _ _ _ _ us hl => match us, hl with | [_], _ => rfl), .nil, fun _ => .nil⟩
theorem G_check_loop (J : Jn K mg h) {fd : FuncData} (F : FunD K "check_loop" "check_loop" (defArgs s_check_loop) (defBody s_check_loop) (defScope s_check_loop) [] [] (He.fAd K ("check_loop", none)) fd) : FnG P w K mg base L2.CX0 16 (He.fAd K ("check_loop", none)) fd ["bare", "value"] (spD K mg 2 m_check_loop) := ok_check_loop (txJ J) (J_d_loops_of J) (J_d_is_number J) F
theorem J_d_check_loop (J : Jn K mg h) : Cd P w K mg base 16 "check_loop" 2 m_check_loop [] := by
  obtain ⟨fd, F0⟩ := J.c.def_ 22 (d := dJ_check_loop) rfl
  have F : FunD K "check_loop" "check_loop" (defArgs s_check_loop) (defBody s_check_loop) (defScope s_check_loop) [] [] (He.fAd K ("check_loop", none)) fd := F0
  exact ⟨_, fd, ["bare", "value"], [], [], (G_check_loop J F), arity_F, He.glo_ok J.X J.G (J.c.fact 21 (f := .glo "check_loop") rfl), F.kp, (F.bindsN fun _ _ _ _ _ _ us hl => match us, hl with | [_, _], _ => rfl), .nil, fun _ => .nil⟩
theorem G_is_pair (J : Jn K mg h) {fd : FuncData} (F : FunD K "is_pair" "is_pair" (defArgs s_is_pair) (defBody s_is_pair) (defScope s_is_pair) [] [] (He.fAd K ("is_pair", none)) fd) : FnG P w K mg base L2.CX0 2 (He.fAd K ("is_pair", none)) fd ["value"] (spD K mg 1 m_is_pair) := ok_is_pair (txJ J) (J_d_is_tuple_of J) (J_d_is_whole J) F
theorem J_d_is_pair (J : Jn K mg h) : Cd P w K mg base 2 "is_pair" 1 m_is_pair [] := by
  obtain ⟨fd, F0⟩ := J.c.def_ 23 (d := dJ_is_pair) rfl
  have F : FunD K "is_pair" "is_pair" (defArgs s_is_pair) (defBody s_is_pair) (defScope s_is_pair) [] [] (He.fAd K ("is_pair", none)) fd := F0
  exact ⟨_, fd, ["value"], [], [], (G_is_pair J F), arity_F, He.glo_ok J.X J.G (J.c.fact 22 (f := .glo "is_pair") rfl), F.kp, (F.bindsN fun _ _ _ _ _ _ us hl => match us, hl with | [_], _ => rfl), .nil, fun _ => .nil⟩
theorem G_is_link (J : Jn K mg h) {fd : FuncData} (F : FunD K "is_link" "is_link" (defArgs s_is_link) (defBody s_is_link) (defScope s_is_link) [] [] (He.fAd K ("is_link", none)) fd) : FnG P w K mg base L2.CX0 3 (He.fAd K ("is_link", none)) fd ["links", "value"] (spD K mg 2 m_is_link) := ok_is_link (txJ J) (J_d_is_pair J) F
theorem J_d_is_link (J : Jn K mg h) : Cd P w K mg base 3 "is_link" 2 m_is_link [] := by
  obtain ⟨fd, F0⟩ := J.c.def_ 24 (d := dJ_is_link) rfl
  have F : FunD K "is_link" "is_link" (defArgs s_is_link) (defBody s_is_link) (defScope s_is_link) [] [] (He.fAd K ("is_link", none)) fd := F0
  exact ⟨_, fd, ["links", "value"], [], [], (G_is_link J F), arity_F, He.glo_ok J.X J.G (J.c.fact 23 (f := .glo "is_link") rfl), F.kp, (F.bindsN fun _ _ _ _ _ _ us hl => match us, hl with | [_, _], _ => rfl), .nil, fun _ => .nil⟩
theorem G_way_between (J : Jn K mg h) {fd : FuncData} (F : FunD K "way_between" "way_between" (defArgs s_way_between) (defBody s_way_between) (defScope s_way_between) [] [] (He.fAd K ("way_between", none)) fd) : FnG P w K mg base L2.CX0 1 (He.fAd K ("way_between", none)) fd ["one", "other", "winding"] (spD K mg 3 m_way_between) := ok_way_between (txJ J)  F
theorem J_d_way_between (J : Jn K mg h) : Cd P w K mg base 1 "way_between" 3 m_way_between [] := by
  obtain ⟨fd, F0⟩ := J.c.def_ 25 (d := dJ_way_between) rfl
  have F : FunD K "way_between" "way_between" (defArgs s_way_between) (defBody s_way_between) (defScope s_way_between) [] [] (He.fAd K ("way_between", none)) fd := F0
  exact ⟨_, fd, ["one", "other", "winding"], [], [], (G_way_between J F), arity_F, He.glo_ok J.X J.G (J.c.fact 24 (f := .glo "way_between") rfl), F.kp, (F.bindsN fun _ _ _ _ _ _ us hl => match us, hl with | [_, _, _], _ => rfl), .nil, fun _ => .nil⟩
theorem G_is_near (J : Jn K mg h) {fd : FuncData} (F : FunD K "is_near" "is_near" (defArgs s_is_near) (defBody s_is_near) (defScope s_is_near) [] [] (He.fAd K ("is_near", none)) fd) : FnG P w K mg base L2.CX0 2 (He.fAd K ("is_near", none)) fd ["one", "other", "winding", "reach"] (spD K mg 4 m_is_near) := ok_is_near (txJ J) (J_d_way_between J) F
theorem J_d_is_near (J : Jn K mg h) : Cd P w K mg base 2 "is_near" 4 m_is_near [] := by
  obtain ⟨fd, F0⟩ := J.c.def_ 26 (d := dJ_is_near) rfl
  have F : FunD K "is_near" "is_near" (defArgs s_is_near) (defBody s_is_near) (defScope s_is_near) [] [] (He.fAd K ("is_near", none)) fd := F0
  exact ⟨_, fd, ["one", "other", "winding", "reach"], [], [], (G_is_near J F), arity_F, He.glo_ok J.X J.G (J.c.fact 25 (f := .glo "is_near") rfl), F.kp, (F.bindsN fun _ _ _ _ _ _ us hl => match us, hl with | [_, _, _, _], _ => rfl), .nil, fun _ => .nil⟩
theorem G_free_winding (J : Jn K mg h) {fd : FuncData} (F : FunD K "free_winding" "free_winding" (defArgs s_free_winding) (defBody s_free_winding) (defScope s_free_winding) [] [] (He.fAd K ("free_winding", none)) fd) : FnG P w K mg base L2.CX0 3 (He.fAd K ("free_winding", none)) fd ["one", "other", "least", "reach"] (spD K mg 4 m_free_winding) := ok_free_winding (txJ J) (J_d_is_near J) F
theorem J_d_free_winding (J : Jn K mg h) : Cd P w K mg base 3 "free_winding" 4 m_free_winding [] := by
  obtain ⟨fd, F0⟩ := J.c.def_ 27 (d := dJ_free_winding) rfl
  have F : FunD K "free_winding" "free_winding" (defArgs s_free_winding) (defBody s_free_winding) (defScope s_free_winding) [] [] (He.fAd K ("free_winding", none)) fd := F0
  exact ⟨_, fd, ["one", "other", "least", "reach"], [], [], (G_free_winding J F), arity_F, He.glo_ok J.X J.G (J.c.fact 26 (f := .glo "free_winding") rfl), F.kp, (F.bindsN fun _ _ _ _ _ _ us hl => match us, hl with | [_, _, _, _], _ => rfl), .nil, fun _ => .nil⟩
theorem G_Links_classes_found (J : Jn K mg h) {fd : FuncData} (F : FunD K "classes_found" "Links.classes_found" (defArgs s_Links_classes_found) (defBody s_Links_classes_found) (defScope s_Links_classes_found) [] [] (He.fAd K ("Links", some "classes_found")) fd) : FnG P w K mg base L2.CX0 1 (He.fAd K ("Links", some "classes_found")) fd ["self"] (spD K mg 1 m_Links_classes_found) := ok_Links_classes_found (txJ J)  F
theorem J_m_Links_classes_found (J : Jn K mg h) : Cm P w K mg base 1 "Links" "classes_found" 1 m_Links_classes_found [] := by
  obtain ⟨fd, F0⟩ := J.c.def_ 29 (d := dJ_Links_classes_found) rfl
  have F : FunD K "classes_found" "Links.classes_found" (defArgs s_Links_classes_found) (defBody s_Links_classes_found) (defScope s_Links_classes_found) [] [] (He.fAd K ("Links", some "classes_found")) fd := F0
  exact ⟨_, _, fd, ["self"], [], [], He.glo_ok J.X J.G (J.c.fact 44 (f := .glo "Links") rfl), He.cls_ok (J.c.fact 45 (f := .cls "Links") rfl), He.meth_ok (J.c.fact 47 (f := .meth "Links" "classes_found") rfl), (G_Links_classes_found J F), arity_F, (F.bindsN fun _ _ _ _ _ _ us hl => match us, hl with | [_], _ => rfl), .nil, fun _ => .nil⟩
theorem G_Links_init (J : Jn K mg h) {fd : FuncData} (F : FunD K "__init__" "Links.__init__" (defArgs s_Links_init) (defBody s_Links_init) (defScope s_Links_init) [] [] (He.fAd K ("Links", some "__init__")) fd) : FnG P w K mg base L2.CX0 17 (He.fAd K ("Links", some "__init__")) fd ["self", "bare", "loop", "reach"] (spD K mg 4 m_Links_init) := ok_Links_init (txJ J) (J_d_references_of J) (J_m_Links_classes_found J) (J_d_free_winding J) F
theorem J_mk_Links_init (J : Jn K mg h) : Cc P w K mg base 17 "Links" 4 m_Links_init [] := by
  obtain ⟨fd, F0⟩ := J.c.def_ 28 (d := dJ_Links_init) rfl
  have F : FunD K "__init__" "Links.__init__" (defArgs s_Links_init) (defBody s_Links_init) (defScope s_Links_init) [] [] (He.fAd K ("Links", some "__init__")) fd := F0
  exact ⟨_, _, fd, ["self", "bare", "loop", "reach"], [], [], He.glo_ok J.X J.G (J.c.fact 44 (f := .glo "Links") rfl), He.mkr_ok (J.c.fact 46 (f := .mkr "Links") rfl), (G_Links_init J F), arity_K, (F.bindsN fun _ _ _ _ _ _ us hl => match us, hl with | [_, _, _, _], _ => rfl), .nil, fun _ => .nil⟩
theorem G_Links_way (J : Jn K mg h) {fd : FuncData} (F : FunD K "way" "Links.way" (defArgs s_Links_way) (defBody s_Links_way) (defScope s_Links_way) [] [] (He.fAd K ("Links", some "way")) fd) : FnG P w K mg base L2.CX0 2 (He.fAd K ("Links", some "way")) fd ["self", "link", "winding"] (spD K mg 3 m_Links_way) := ok_Links_way (txJ J) (J_d_way_between J) F
theorem J_m_Links_way (J : Jn K mg h) : Cm P w K mg base 2 "Links" "way" 3 m_Links_way [] := by
  obtain ⟨fd, F0⟩ := J.c.def_ 30 (d := dJ_Links_way) rfl
  have F : FunD K "way" "Links.way" (defArgs s_Links_way) (defBody s_Links_way) (defScope s_Links_way) [] [] (He.fAd K ("Links", some "way")) fd := F0
  exact ⟨_, _, fd, ["self", "link", "winding"], [], [], He.glo_ok J.X J.G (J.c.fact 44 (f := .glo "Links") rfl), He.cls_ok (J.c.fact 45 (f := .cls "Links") rfl), He.meth_ok (J.c.fact 48 (f := .meth "Links" "way") rfl), (G_Links_way J F), arity_F, (F.bindsN fun _ _ _ _ _ _ us hl => match us, hl with | [_, _, _], _ => rfl), .nil, fun _ => .nil⟩
theorem G_Links_told (J : Jn K mg h) {fd : FuncData} (F : FunD K "told" "Links.told" (defArgs s_Links_told) (defBody s_Links_told) (defScope s_Links_told) [] [] (He.fAd K ("Links", some "told")) fd) : FnG P w K mg base L2.CX0 1 (He.fAd K ("Links", some "told")) fd ["self"] (spD K mg 1 m_Links_told) := ok_Links_told (txJ J)  F
theorem J_m_Links_told (J : Jn K mg h) : Cm P w K mg base 1 "Links" "told" 1 m_Links_told [] := by
  obtain ⟨fd, F0⟩ := J.c.def_ 31 (d := dJ_Links_told) rfl
  have F : FunD K "told" "Links.told" (defArgs s_Links_told) (defBody s_Links_told) (defScope s_Links_told) [] [] (He.fAd K ("Links", some "told")) fd := F0
  exact ⟨_, _, fd, ["self"], [], [], He.glo_ok J.X J.G (J.c.fact 44 (f := .glo "Links") rfl), He.cls_ok (J.c.fact 45 (f := .cls "Links") rfl), He.meth_ok (J.c.fact 49 (f := .meth "Links" "told") rfl), (G_Links_told J F), arity_F, (F.bindsN fun _ _ _ _ _ _ us hl => match us, hl with | [_], _ => rfl), .nil, fun _ => .nil⟩
theorem G_check_link (J : Jn K mg h) {fd : FuncData} (F : FunD K "check_link" "check_link" (defArgs s_check_link) (defBody s_check_link) (defScope s_check_link) [] [] (He.fAd K ("check_link", none)) fd) : FnG P w K mg base L2.CX0 4 (He.fAd K ("check_link", none)) fd ["links", "value"] (spD K mg 2 m_check_link) := ok_check_link (txJ J) (J_d_is_link J) F
theorem J_d_check_link (J : Jn K mg h) : Cd P w K mg base 4 "check_link" 2 m_check_link [] := by
  obtain ⟨fd, F0⟩ := J.c.def_ 32 (d := dJ_check_link) rfl
  have F : FunD K "check_link" "check_link" (defArgs s_check_link) (defBody s_check_link) (defScope s_check_link) [] [] (He.fAd K ("check_link", none)) fd := F0
  exact ⟨_, fd, ["links", "value"], [], [], (G_check_link J F), arity_F, He.glo_ok J.X J.G (J.c.fact 27 (f := .glo "check_link") rfl), F.kp, (F.bindsN fun _ _ _ _ _ _ us hl => match us, hl with | [_, _], _ => rfl), .nil, fun _ => .nil⟩
theorem G_classes (J : Jn K mg h) {fd : FuncData} (F : FunD K "classes" "classes" (defArgs s_classes) (defBody s_classes) (defScope s_classes) [] [] (He.fAd K ("classes", none)) fd) : FnG P w K mg base L2.CX0 33 (He.fAd K ("classes", none)) fd ["bare", "loop"] (spD K mg 2 m_classes) := ok_classes (txJ J) (J_d_check_bare J) (J_d_check_loop J) (J_mk_Links_init J) F
theorem J_k_classes_1_loop (J : Jn K mg h) : Ck P w K mg base 33 "classes" 2 m_classes ["loop"] (1, [0, 1]) := by
  obtain ⟨fd, F0⟩ := J.c.def_ 33 (d := dJ_classes) rfl
  have F : FunD K "classes" "classes" (defArgs s_classes) (defBody s_classes) (defScope s_classes) [] [] (He.fAd K ("classes", none)) fd := F0
  exact ⟨_, fd, ["bare", "loop"], (G_classes J F), arity_F, He.glo_ok J.X J.G (J.c.fact 28 (f := .glo "classes") rfl), F.kp, kb_of F 1 [0, 1] rfl (by decide) (fun _ _ _ _ _ _ us ws hl hk => match us, ws, hl, hk with | [_], [_], _, _ => rfl)⟩
theorem G_links (J : Jn K mg h) {fd : FuncData} (F : FunD K "links" "links" (defArgs s_links) (defBody s_links) (defScope s_links) [] [] (He.fAd K ("links", none)) fd) : FnG P w K mg base L2.CX0 33 (He.fAd K ("links", none)) fd ["bare", "loop", "reach"] (spD K mg 3 m_links) := ok_links (txJ J) (J_d_check_bare J) (J_d_check_loop J) (J_d_check_reach J) (J_m_Links_told J) (J_mk_Links_init J) F
theorem J_k_links_2_reach (J : Jn K mg h) : Ck P w K mg base 33 "links" 3 m_links ["reach"] (2, [0, 1, 2]) := by
  obtain ⟨fd, F0⟩ := J.c.def_ 34 (d := dJ_links) rfl
  have F : FunD K "links" "links" (defArgs s_links) (defBody s_links) (defScope s_links) [] [] (He.fAd K ("links", none)) fd := F0
  exact ⟨_, fd, ["bare", "loop", "reach"], (G_links J F), arity_F, He.glo_ok J.X J.G (J.c.fact 29 (f := .glo "links") rfl), F.kp, kb_of F 2 [0, 1, 2] rfl (by decide) (fun _ _ _ _ _ _ us ws hl hk => match us, ws, hl, hk with | [_, _], [_], _, _ => rfl)⟩
theorem J_k_links_0_reach_loop_bare (J : Jn K mg h) : Ck P w K mg base 33 "links" 3 m_links ["reach", "loop", "bare"] (0, [2, 1, 0]) := by
  obtain ⟨fd, F0⟩ := J.c.def_ 34 (d := dJ_links) rfl
  have F : FunD K "links" "links" (defArgs s_links) (defBody s_links) (defScope s_links) [] [] (He.fAd K ("links", none)) fd := F0
  exact ⟨_, fd, ["bare", "loop", "reach"], (G_links J F), arity_F, He.glo_ok J.X J.G (J.c.fact 29 (f := .glo "links") rfl), F.kp, kb_of F 0 [2, 1, 0] rfl (by decide) (fun _ _ _ _ _ _ us ws hl hk => match us, ws, hl, hk with | [], [_, _, _], _, _ => rfl)⟩
theorem G_walk_by (J : Jn K mg h) {fd : FuncData} (F : FunD K "walk_by" "walk_by" (defArgs s_walk_by) (defBody s_walk_by) (defScope s_walk_by) [] [] (He.fAd K ("walk_by", none)) fd) : FnG P w K mg base L2.CX0 33 (He.fAd K ("walk_by", none)) fd ["bare", "loop", "link", "winding"] (spD K mg 4 m_walk_by) := ok_walk_by (txJ J) (J_d_check_bare J) (J_d_check_loop J) (J_mk_Links_init J) (J_d_check_link J) (J_d_is_number J) (J_m_Links_way J) F
theorem J_k_walk_by_0_winding_link_loop_bare (J : Jn K mg h) : Ck P w K mg base 33 "walk_by" 4 m_walk_by ["winding", "link", "loop", "bare"] (0, [3, 2, 1, 0]) := by
  obtain ⟨fd, F0⟩ := J.c.def_ 35 (d := dJ_walk_by) rfl
  have F : FunD K "walk_by" "walk_by" (defArgs s_walk_by) (defBody s_walk_by) (defScope s_walk_by) [] [] (He.fAd K ("walk_by", none)) fd := F0
  exact ⟨_, fd, ["bare", "loop", "link", "winding"], (G_walk_by J F), arity_F, He.glo_ok J.X J.G (J.c.fact 30 (f := .glo "walk_by") rfl), F.kp, kb_of F 0 [3, 2, 1, 0] rfl (by decide) (fun _ _ _ _ _ _ us ws hl hk => match us, ws, hl, hk with | [], [_, _, _, _], _, _ => rfl)⟩
theorem J_d_walk_by (J : Jn K mg h) : Cd P w K mg base 33 "walk_by" 4 m_walk_by [] := by
  obtain ⟨fd, F0⟩ := J.c.def_ 35 (d := dJ_walk_by) rfl
  have F : FunD K "walk_by" "walk_by" (defArgs s_walk_by) (defBody s_walk_by) (defScope s_walk_by) [] [] (He.fAd K ("walk_by", none)) fd := F0
  exact ⟨_, fd, ["bare", "loop", "link", "winding"], [], [], (G_walk_by J F), arity_F, He.glo_ok J.X J.G (J.c.fact 30 (f := .glo "walk_by") rfl), F.kp, (F.bindsN fun _ _ _ _ _ _ us hl => match us, hl with | [_, _, _, _], _ => rfl), .nil, fun _ => .nil⟩
theorem G_references (J : Jn K mg h) {fd : FuncData} (F : FunD K "references" "references" (defArgs s_references) (defBody s_references) (defScope s_references) [] [] (He.fAd K ("references", none)) fd) : FnG P w K mg base L2.CX0 33 (He.fAd K ("references", none)) fd ["bare", "loop"] (spD K mg 2 m_references) := ok_references (txJ J) (J_d_check_bare J) (J_d_check_loop J) (J_d_references_of J) F
theorem J_k_references_1_loop (J : Jn K mg h) : Ck P w K mg base 33 "references" 2 m_references ["loop"] (1, [0, 1]) := by
  obtain ⟨fd, F0⟩ := J.c.def_ 36 (d := dJ_references) rfl
  have F : FunD K "references" "references" (defArgs s_references) (defBody s_references) (defScope s_references) [] [] (He.fAd K ("references", none)) fd := F0
  exact ⟨_, fd, ["bare", "loop"], (G_references J F), arity_F, He.glo_ok J.X J.G (J.c.fact 31 (f := .glo "references") rfl), F.kp, kb_of F 1 [0, 1] rfl (by decide) (fun _ _ _ _ _ _ us ws hl hk => match us, ws, hl, hk with | [_], [_], _, _ => rfl)⟩
theorem G__law_pail (J : Jn K mg h) {fd : FuncData} (F : FunD K "_law_pail" "_law_pail" (defArgs s__law_pail) (defBody s__law_pail) (defScope s__law_pail) [] [] (He.fAd K ("_law_pail", none)) fd) : FnG P w K mg base L2.CX0 1 (He.fAd K ("_law_pail", none)) fd ["script", "turn"] (spD K mg 2 m__law_pail) := ok__law_pail (txJ J)  F
theorem J_d__law_pail (J : Jn K mg h) : Cd P w K mg base 1 "_law_pail" 2 m__law_pail [] := by
  obtain ⟨fd, F0⟩ := J.c.def_ 37 (d := dJ__law_pail) rfl
  have F : FunD K "_law_pail" "_law_pail" (defArgs s__law_pail) (defBody s__law_pail) (defScope s__law_pail) [] [] (He.fAd K ("_law_pail", none)) fd := F0
  exact ⟨_, fd, ["script", "turn"], [], [], (G__law_pail J F), arity_K, He.glo_ok J.X J.G (J.c.fact 32 (f := .glo "_law_pail") rfl), F.kp, (F.bindsN fun _ _ _ _ _ _ us hl => match us, hl with | [_, _], _ => rfl), .nil, fun _ => .nil⟩
theorem G__law_deal (J : Jn K mg h) {fd : FuncData} (F : FunD K "_law_deal" "_law_deal" (defArgs s__law_deal) (defBody s__law_deal) (defScope s__law_deal) [] [] (He.fAd K ("_law_deal", none)) fd) : FnG P w K mg base L2.CX0 1 (He.fAd K ("_law_deal", none)) fd ["pail", "top"] (spD K mg 2 m__law_deal) := ok__law_deal (txJ J)  F
theorem J_d__law_deal (J : Jn K mg h) : Cd P w K mg base 1 "_law_deal" 2 m__law_deal [] := by
  obtain ⟨fd, F0⟩ := J.c.def_ 38 (d := dJ__law_deal) rfl
  have F : FunD K "_law_deal" "_law_deal" (defArgs s__law_deal) (defBody s__law_deal) (defScope s__law_deal) [] [] (He.fAd K ("_law_deal", none)) fd := F0
  exact ⟨_, fd, ["pail", "top"], [], [], (G__law_deal J F), arity_F, He.glo_ok J.X J.G (J.c.fact 33 (f := .glo "_law_deal") rfl), F.kp, (F.bindsN fun _ _ _ _ _ _ us hl => match us, hl with | [_, _], _ => rfl), .nil, fun _ => .nil⟩
theorem G__law_any (J : Jn K mg h) {fd : FuncData} (F : FunD K "_law_any" "_law_any" (defArgs s__law_any) (defBody s__law_any) (defScope s__law_any) [] [] (He.fAd K ("_law_any", none)) fd) : FnG P w K mg base L2.CX0 2 (He.fAd K ("_law_any", none)) fd ["pail", "some"] (spD K mg 2 m__law_any) := ok__law_any (txJ J) (J_d__law_deal J) F
theorem J_d__law_any (J : Jn K mg h) : Cd P w K mg base 2 "_law_any" 2 m__law_any [] := by
  obtain ⟨fd, F0⟩ := J.c.def_ 39 (d := dJ__law_any) rfl
  have F : FunD K "_law_any" "_law_any" (defArgs s__law_any) (defBody s__law_any) (defScope s__law_any) [] [] (He.fAd K ("_law_any", none)) fd := F0
  exact ⟨_, fd, ["pail", "some"], [], [], (G__law_any J F), arity_F, He.glo_ok J.X J.G (J.c.fact 34 (f := .glo "_law_any") rfl), F.kp, (F.bindsN fun _ _ _ _ _ _ us hl => match us, hl with | [_, _], _ => rfl), .nil, fun _ => .nil⟩
theorem G__law_bare_with (J : Jn K mg h) {fd : FuncData} (F : FunD K "_law_bare_with" "_law_bare_with" (defArgs s__law_bare_with) (defBody s__law_bare_with) (defScope s__law_bare_with) [] [] (He.fAd K ("_law_bare_with", none)) fd) : FnG P w K mg base L2.CX0 1 (He.fAd K ("_law_bare_with", none)) fd ["some", "lap"] (spD K mg 2 m__law_bare_with) := ok__law_bare_with (txJ J)  F
theorem J_d__law_bare_with (J : Jn K mg h) : Cd P w K mg base 1 "_law_bare_with" 2 m__law_bare_with [] := by
  obtain ⟨fd, F0⟩ := J.c.def_ 40 (d := dJ__law_bare_with) rfl
  have F : FunD K "_law_bare_with" "_law_bare_with" (defArgs s__law_bare_with) (defBody s__law_bare_with) (defScope s__law_bare_with) [] [] (He.fAd K ("_law_bare_with", none)) fd := F0
  exact ⟨_, fd, ["some", "lap"], [], [], (G__law_bare_with J F), arity_F, He.glo_ok J.X J.G (J.c.fact 35 (f := .glo "_law_bare_with") rfl), F.kp, (F.bindsN fun _ _ _ _ _ _ us hl => match us, hl with | [_, _], _ => rfl), .nil, fun _ => .nil⟩
theorem G__law_same (J : Jn K mg h) {fd : FuncData} (F : FunD K "_law_same" "_law_same" (defArgs s__law_same) (defBody s__law_same) (defScope s__law_same) [] [] (He.fAd K ("_law_same", none)) fd) : FnG P w K mg base L2.CX0 1 (He.fAd K ("_law_same", none)) fd ["one", "two"] (spD K mg 2 m__law_same) := ok__law_same (txJ J)  F
theorem J_d__law_same (J : Jn K mg h) : Cd P w K mg base 1 "_law_same" 2 m__law_same [] := by
  obtain ⟨fd, F0⟩ := J.c.def_ 41 (d := dJ__law_same) rfl
  have F : FunD K "_law_same" "_law_same" (defArgs s__law_same) (defBody s__law_same) (defScope s__law_same) [] [] (He.fAd K ("_law_same", none)) fd := F0
  exact ⟨_, fd, ["one", "two"], [], [], (G__law_same J F), arity_F, He.glo_ok J.X J.G (J.c.fact 36 (f := .glo "_law_same") rfl), F.kp, (F.bindsN fun _ _ _ _ _ _ us hl => match us, hl with | [_, _], _ => rfl), .nil, fun _ => .nil⟩
theorem G__law_free_by (J : Jn K mg h) {fd : FuncData} (F : FunD K "_law_free_by" "_law_free_by" (defArgs s__law_free_by) (defBody s__law_free_by) (defScope s__law_free_by) [] [] (He.fAd K ("_law_free_by", none)) fd) : FnG P w K mg base L2.CX0 1 (He.fAd K ("_law_free_by", none)) fd ["step", "gap", "least", "reach"] (spD K mg 4 m__law_free_by) := ok__law_free_by (txJ J)  F
theorem J_d__law_free_by (J : Jn K mg h) : Cd P w K mg base 1 "_law_free_by" 4 m__law_free_by [] := by
  obtain ⟨fd, F0⟩ := J.c.def_ 42 (d := dJ__law_free_by) rfl
  have F : FunD K "_law_free_by" "_law_free_by" (defArgs s__law_free_by) (defBody s__law_free_by) (defScope s__law_free_by) [] [] (He.fAd K ("_law_free_by", none)) fd := F0
  exact ⟨_, fd, ["step", "gap", "least", "reach"], [], [], (G__law_free_by J F), arity_F, He.glo_ok J.X J.G (J.c.fact 37 (f := .glo "_law_free_by") rfl), F.kp, (F.bindsN fun _ _ _ _ _ _ us hl => match us, hl with | [_, _, _, _], _ => rfl), .nil, fun _ => .nil⟩
theorem G__law_pair_right (J : Jn K mg h) {fd : FuncData} (F : FunD K "_law_pair_right" "_law_pair_right" (defArgs s__law_pair_right) (defBody s__law_pair_right) (defScope s__law_pair_right) [] [] (He.fAd K ("_law_pair_right", none)) fd) : FnG P w K mg base L2.CX0 34 (He.fAd K ("_law_pair_right", none)) fd ["pail", "step", "one", "two", "reach"] (spD K mg 5 m__law_pair_right) := ok__law_pair_right (txJ J) (J_d__law_bare_with J) (J_k_references_1_loop J) (J_k_classes_1_loop J) (J_k_links_2_reach J) (J_d__law_free_by J) (J_k_links_0_reach_loop_bare J) (J_d__law_same J) (J_d__law_any J) (J_k_walk_by_0_winding_link_loop_bare J) (J_d_walk_by J) F
theorem J_d__law_pair_right (J : Jn K mg h) : Cd P w K mg base 34 "_law_pair_right" 5 m__law_pair_right [] := by
  obtain ⟨fd, F0⟩ := J.c.def_ 43 (d := dJ__law_pair_right) rfl
  have F : FunD K "_law_pair_right" "_law_pair_right" (defArgs s__law_pair_right) (defBody s__law_pair_right) (defScope s__law_pair_right) [] [] (He.fAd K ("_law_pair_right", none)) fd := F0
  exact ⟨_, fd, ["pail", "step", "one", "two", "reach"], [], [], (G__law_pair_right J F), arity_F, He.glo_ok J.X J.G (J.c.fact 38 (f := .glo "_law_pair_right") rfl), F.kp, (F.bindsN fun _ _ _ _ _ _ us hl => match us, hl with | [_, _, _, _, _], _ => rfl), .nil, fun _ => .nil⟩
theorem G__law_right (J : Jn K mg h) {fd : FuncData} (F : FunD K "_law_right" "_law_right" (defArgs s__law_right) (defBody s__law_right) (defScope s__law_right) [] [] (He.fAd K ("_law_right", none)) fd) : FnG P w K mg base L2.CX0 35 (He.fAd K ("_law_right", none)) fd ["pail"] (spD K mg 1 m__law_right) := ok__law_right (txJ J) (J_d__law_deal J) (J_d__law_any J) (J_d__law_pair_right J) F
theorem J_d__law_right (J : Jn K mg h) : Cd P w K mg base 35 "_law_right" 1 m__law_right [] := by
  obtain ⟨fd, F0⟩ := J.c.def_ 44 (d := dJ__law_right) rfl
  have F : FunD K "_law_right" "_law_right" (defArgs s__law_right) (defBody s__law_right) (defScope s__law_right) [] [] (He.fAd K ("_law_right", none)) fd := F0
  exact ⟨_, fd, ["pail"], [], [], (G__law_right J F), arity_F, He.glo_ok J.X J.G (J.c.fact 39 (f := .glo "_law_right") rfl), F.kp, (F.bindsN fun _ _ _ _ _ _ us hl => match us, hl with | [_], _ => rfl), .nil, fun _ => .nil⟩
theorem G_law (J : Jn K mg h) {fd : FuncData} (F : FunD K "law" "law" (defArgs s_law) (defBody s_law) (defScope s_law) [] [] (He.fAd K ("law", none)) fd) : FnG P w K mg base L2.CX0 36 (He.fAd K ("law", none)) fd ["script"] (spD K mg 1 m_law) := ok_law (txJ J) (J_d__law_pail J) (J_d__law_right J) F
end
theorem law_holds (main : ∀ ns : List Int, ∃ s', m_law [.scr (ns.map .int)] ⟨[], []⟩ = some (.ok (.bl true), s')) : PySem.Challenge.rw_handrows_k27_main_whole_free_windings_by.Holds := by
  w_on; o_law
  refine HandSHeadRun.head_any (r := RJ) (q := PySem.W.view RJ.prog [78]) (H := hkJ) (ob := obJ) (M := 20000) (loose := looseJ) (d := HandSHeadRun.topDef RJ.prog 78) (kwd := []) obJ_eq
    (by kernel_rfl) (fun s => by kernel_rfl) runJ (by kernel_rfl) (by kernel_rfl) (by kernel_rfl) (by rfl) (by first | assumption | decide +kernel) (by decide +kernel) ⟨rfl, rfl, rfl, rfl, rfl, by decide +kernel⟩ ?hw ?hc
  case hw => w_witness2
  case hc =>
    refine walk_ofGE (l := PySem.Challenge.rw_handrows_k27_main_whole_free_windings_by) (n := 63) (k := 36) (x := "script") rfl (by decide) (by kernel_rfl) ⟨⟨rfl, by decide, by decide⟩, rfl⟩ ?F
    intro w mg fa h Y G hmg0
    obtain ⟨K, KX, c, ex⟩ := Y
    have J : Jn K mg h := ⟨KX, G, c, ex⟩
    have hmg : mg ("law" : PySem.Str) = some (.ref fa) := by
      have e : (HandSHeadRun.topDef RJ.prog 78).name = ("law" : PySem.Str) := by kernel_rfl
      rw [← e]
      exact hmg0
    obtain ⟨fd, F0⟩ := J.c.def_ 45 (d := dJ_law) rfl
    have F : FunD K "law" "law" (defArgs s_law) (defBody s_law) (defScope s_law) [] [] (He.fAd K ("law", none)) fd := F0
    have e := hmg.symm.trans (He.glo_ok J.X J.G (J.c.fact 40 (f := .glo "law") rfl))
    cases e
    exact ⟨K, fd, spD K mg 1 m_law, KX, fun s v => FunD.bindsA (ps := ["script"]) F (fun _ _ _ _ _ _ us hl => match us, hl with | [_], _ => rfl) s [v] rfl, fun base _ _ => G_law J F, fun H a ns hl hO hS => start_law hO hS rfl (main ns)⟩
end DS.Lw
open PySem PySem.W PyProof.Rows
set_option maxRecDepth 100000 in
set_option maxHeartbeats 8000000 in
theorem PySem.Challenge.cw_handrows_k27_main_whole_free_windings_by_holds : PySem.Challenge.rw_handrows_k27_main_whole_free_windings_by.Holds := by
  exact DS.Lw.law_holds DS.Lw.x_law
