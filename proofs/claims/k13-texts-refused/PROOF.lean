import PyProof.Rows.All
import Wide.All
import OpenK.AllK
import Wide.FinOn
import HandS.ForMost
import HandS.Exc
import HandS.TryOnly
import HandS.ExcOwn
import HandS.WordsExc
import HandS.Deep
import HandS.Rev
import HandS.Iter
import HandS.Words
import HandS.Conv
import HandS.Style
import HandS.IsInst
import HandS.SortInts
import HandS.SortRule
import HandS.TupLen
import KE.KSortedM
import HandS.ExcIs
import KE.KStateDown
import HandS.Head0
import HandS.Head1
import HandS.Head2
import HandS.HeadEnd
import HandS.HeadHook1
import HandS.HeadHook2
import KE.DataMinMax
import KE.SortData
import HandS.Text
import KE.KIntText
import KE.DataFind
import HandS.SetFor
import HandS.TupSets
import HandS.HotCalls
import HandS.SuiteRaise
import PySem.Challenge.RW_haltline_k13_texts_refused
set_option Elab.async false
set_option linter.all false
set_option maxRecDepth 100000
set_option maxHeartbeats 0
namespace DL
open PySem PySem.Spec PyProof.Rows L2

/-- a value by its content: what is not changed any more -/
inductive D where
  | non | bl (b : Bool) | int (i : Int) | str (s : Str) | scr (ns : List Int)
  | lst (ds : List D) | tup (ds : List D) | dct (kvs : List (List Key × D)) | obj (C : Addr) (fs : List (Str × D)) | adr (a : Addr)
/-- a value with the objects that it alone holds -/
inductive T where
  | d (x : D) | lst (ts : List T) | tup (ts : List T) | dct (kvs : List (List Key × T)) | obj (C : Addr) (fs : List (Str × T)) | tag (a : Addr) (t : T)

section
variable (K : PySem.W.Frag) (G : Hp)
mutual
inductive Dr : V → D → Prop
  | non : Dr .non .non
  | bl (b : Bool) : Dr (.bl b) (.bl b)
  | int (i : Int) : Dr (.int i) (.int i)
  | str (x : Str) : Dr (.str x) (.str x)
  | adr (a : Addr) : Dr (.ref a) (.adr a)
  | scr {a : Addr} {ns : List Int} : SqL K G a (ns.map V.int) → Dr (.ref a) (.scr ns)
  | lst {a : Addr} {vs : List V} {ds : List D} : G a = some (.lst vs) → Drs vs ds → Dr (.ref a) (.lst ds)
  | tup {a : Addr} {vs : List V} {ds : List D} : G a = some (.tup vs) → Drs vs ds → Dr (.ref a) (.tup ds)
  | dct {a : Addr} {vs : List (List Key × V)} {ds : List (List Key × D)} : G a = some (.dT vs) → DrK vs ds → Dr (.ref a) (.dct ds)
  | obj {a C dx : Addr} {vs : List (Str × V)} {ds : List (Str × D)} : G a = some (.ins C dx vs) → DrF vs ds → Dr (.ref a) (.obj C ds)
inductive Drs : List V → List D → Prop
  | nil : Drs [] []
  | cons {v : V} {vs : List V} {d : D} {ds : List D} : Dr v d → Drs vs ds → Drs (v :: vs) (d :: ds)
inductive DrK : List (List Key × V) → List (List Key × D) → Prop
  | nil : DrK [] []
  | cons {k : List Key} {v : V} {vs : List (List Key × V)} {d : D} {ds : List (List Key × D)} : Dr v d → DrK vs ds → DrK ((k, v) :: vs) ((k, d) :: ds)
inductive DrF : List (Str × V) → List (Str × D) → Prop
  | nil : DrF [] []
  | cons {k : Str} {v : V} {vs : List (Str × V)} {d : D} {ds : List (Str × D)} : Dr v d → DrF vs ds → DrF ((k, v) :: vs) ((k, d) :: ds)
end
end

section
variable {K : PySem.W.Frag} {G G' : Hp}
mutual
theorem Dr.mono (e : Same G G') : ∀ (d : D) (v : V), Dr K G v d → Dr K G' v d
  | .non, _, h => by cases h; exact .non
  | .bl b, _, h => by cases h; exact .bl b
  | .int i, _, h => by cases h; exact .int i
  | .str i, _, h => by cases h; exact .str i
  | .adr i, _, h => by cases h; exact .adr i
  | .scr ns, _, h => by cases h with | scr h => exact .scr (e.seq h)
  | .lst ds, _, h => by cases h with | lst h1 h2 => exact .lst (e _ _ h1) (Drs.mono e ds _ h2)
  | .tup ds, _, h => by cases h with | tup h1 h2 => exact .tup (e _ _ h1) (Drs.mono e ds _ h2)
  | .dct ds, _, h => by cases h with | dct h1 h2 => exact .dct (e _ _ h1) (DrK.mono e ds _ h2)
  | .obj C ds, _, h => by cases h with | obj h1 h2 => exact .obj (e _ _ h1) (DrF.mono e ds _ h2)
theorem Drs.mono (e : Same G G') : ∀ (ds : List D) (vs : List V), Drs K G vs ds → Drs K G' vs ds
  | [], _, h => by cases h; exact .nil
  | d :: ds, _, h => by cases h with | cons h1 h2 => exact .cons (Dr.mono e d _ h1) (Drs.mono e ds _ h2)
theorem DrK.mono (e : Same G G') : ∀ (ds : List (List Key × D)) (vs : List (List Key × V)), DrK K G vs ds → DrK K G' vs ds
  | [], _, h => by cases h; exact .nil
  | (k, d) :: ds, _, h => by cases h with | cons h1 h2 => exact .cons (Dr.mono e d _ h1) (DrK.mono e ds _ h2)
theorem DrF.mono (e : Same G G') : ∀ (ds : List (Str × D)) (vs : List (Str × V)), DrF K G vs ds → DrF K G' vs ds
  | [], _, h => by cases h; exact .nil
  | (k, d) :: ds, _, h => by cases h with | cons h1 h2 => exact .cons (Dr.mono e d _ h1) (DrF.mono e ds _ h2)
end
theorem Drs.len : ∀ {vs : List V} {ds : List D}, Drs K G vs ds → vs.length = ds.length
  | [], [], _ => rfl
  | _ :: vs, _ :: ds, h => by cases h with | cons h1 h2 => simp only [List.length_cons, Drs.len h2]
  | [], _ :: _, h => by cases h
  | _ :: _, [], h => by cases h
theorem Drs.get : ∀ {vs : List V} {ds : List D} {i : Nat} {d : D}, Drs K G vs ds → ds[i]? = some d → ∃ v, vs[i]? = some v ∧ Dr K G v d
  | [], [], i, d, _, h => by simp at h
  | v :: vs, e :: ds, 0, d, h, q => by
    cases h with | cons h1 h2 =>
    have q' : e = d := by simpa using q
    subst q'
    exact ⟨v, rfl, h1⟩
  | v :: vs, e :: ds, i + 1, d, h, q => by
    cases h with | cons h1 h2 =>
    have r := Drs.get (i := i) (d := d) h2 (by simpa using q)
    simpa using r
  | [], _ :: _, _, _, h, _ => by cases h
  | _ :: _, [], _, _, h, _ => by cases h
theorem Drs.append : ∀ {vs ws : List V} {ds es : List D}, Drs K G vs ds → Drs K G ws es → Drs K G (vs ++ ws) (ds ++ es)
  | [], _, [], _, _, h => h
  | v :: vs, _, d :: ds, _, h, q => by cases h with | cons h1 h2 => exact .cons h1 (Drs.append h2 q)
  | [], _, _ :: _, _, h, _ => by cases h
  | _ :: _, _, [], _, h, _ => by cases h
theorem Drs.ints : ∀ {vs : List V} {ns : List Int}, Drs K G vs (ns.map D.int) → vs = ns.map V.int
  | [], [], _ => rfl
  | v :: vs, n :: ns, h => by
    cases h with | cons h1 h2 =>
    cases h1
    rw [List.map_cons, ← Drs.ints h2]
  | [], _ :: _, h => by cases h
  | _ :: _, [], h => by cases h
theorem Drs.of_ints : ∀ {ns : List Int}, Drs K G (ns.map V.int) (ns.map D.int)
  | [] => .nil
  | n :: ns => .cons (.int n) Drs.of_ints
theorem DrK.val : ∀ {vs : List (List Key × V)} {ds : List (List Key × D)} {k : List Key}, DrK K G vs ds →
    (valV vs k = none ∧ (ds.find? fun kv => decide (kv.1 = k)) = none) ∨ ∃ v d, valV vs k = some v ∧ (ds.find? fun kv => decide (kv.1 = k)) = some (k, d) ∧ Dr K G v d
  | [], [], k, _ => .inl ⟨rfl, rfl⟩
  | (k0, v) :: vs, (k1, d) :: ds, k, h => by
    cases h with | cons h1 h2 =>
    by_cases e : k0 = k
    · subst e
      exact .inr ⟨v, d, valV_pos (p := (k0, v)) rfl, by simp, h1⟩
    · rw [valV_neg (p := (k0, v)) e, List.find?_cons]
      simp only [decide_eq_false e]
      exact DrK.val h2
  | [], _ :: _, _, h => by cases h
  | _ :: _, [], _, h => by cases h
theorem DrF.get : ∀ {vs : List (Str × V)} {ds : List (Str × D)} {f : Str} {d : D}, DrF K G vs ds → ds.lookup f = some d → ∃ v, vs.lookup f = some v ∧ Dr K G v d
  | [], [], f, d, _, h => by simp at h
  | (k0, v) :: vs, (k1, e) :: ds, f, d, h, q => by
    cases h with | cons h1 h2 =>
    simp only [List.lookup_cons] at q ⊢
    by_cases b : (f == k0) = true
    · rw [b] at q ⊢
      simp only [Option.some.injEq] at q
      subst q
      exact ⟨v, rfl, h1⟩
    · have b' : (f == k0) = false := by simpa using b
      rw [b'] at q ⊢
      exact DrF.get h2 q
  | [], _ :: _, _, _, h, _ => by cases h
  | _ :: _, [], _, _, h, _ => by cases h
end

section
variable (K : PySem.W.Frag) (G H : Hp)
mutual
inductive Own : V → T → List Addr → Prop
  | d {v : V} {x : D} : Dr K G v x → Own v (.d x) []
  | lst {a : Addr} {vs : List V} {ts : List T} {fp : List Addr} : H a = some (.lst vs) → Owns vs ts fp → Own (.ref a) (.lst ts) (a :: fp)
  | tup {a : Addr} {vs : List V} {ts : List T} {fp : List Addr} : H a = some (.tup vs) → Owns vs ts fp → Own (.ref a) (.tup ts) (a :: fp)
  | dct {a : Addr} {vs : List (List Key × V)} {ts : List (List Key × T)} {fp : List Addr} : H a = some (.dT vs) → OwnK vs ts fp → Own (.ref a) (.dct ts) (a :: fp)
  | obj {a C dx : Addr} {vs : List (Str × V)} {ts : List (Str × T)} {fp : List Addr} : H a = some (.ins C dx vs) → OwnF vs ts fp → Own (.ref a) (.obj C ts) (a :: fp)
  | tag {a : Addr} {t : T} {fp : List Addr} : Own (.ref a) t fp → Own (.ref a) (.tag a t) fp
inductive Owns : List V → List T → List Addr → Prop
  | nil : Owns [] [] []
  | cons {v : V} {vs : List V} {t : T} {ts : List T} {f1 f2 : List Addr} : Own v t f1 → Owns vs ts f2 → Owns (v :: vs) (t :: ts) (f1 ++ f2)
inductive OwnK : List (List Key × V) → List (List Key × T) → List Addr → Prop
  | nil : OwnK [] [] []
  | cons {k : List Key} {v : V} {vs : List (List Key × V)} {t : T} {ts : List (List Key × T)} {f1 f2 : List Addr} : Own v t f1 → OwnK vs ts f2 → OwnK ((k, v) :: vs) ((k, t) :: ts) (f1 ++ f2)
inductive OwnF : List (Str × V) → List (Str × T) → List Addr → Prop
  | nil : OwnF [] [] []
  | cons {k : Str} {v : V} {vs : List (Str × V)} {t : T} {ts : List (Str × T)} {f1 f2 : List Addr} : Own v t f1 → OwnF vs ts f2 → OwnF ((k, v) :: vs) ((k, t) :: ts) (f1 ++ f2)
end
end
/-- the objects at l stand -/
def On (l : List Addr) (H H' : Hp) : Prop := ∀ a ∈ l, ∀ o, H a = some o → H' a = some o
theorem On.of {l : List Addr} {H H' : Hp} (e : Same H H') : On l H H' := fun a _ o q => e a o q
theorem On.sub {l m : List Addr} {H H' : Hp} (e : On l H H') (s : ∀ a ∈ m, a ∈ l) : On m H H' := fun a ha => e a (s a ha)
theorem On.l {l m : List Addr} {H H' : Hp} (e : On (l ++ m) H H') : On l H H' := e.sub fun _ h => List.mem_append_left _ h
theorem On.r {l m : List Addr} {H H' : Hp} (e : On (l ++ m) H H') : On m H H' := e.sub fun _ h => List.mem_append_right _ h
theorem On.t {a : Addr} {m : List Addr} {H H' : Hp} (e : On (a :: m) H H') : On m H H' := e.sub fun _ h => List.mem_cons_of_mem _ h

section
variable {K : PySem.W.Frag} {G G' H H' : Hp}
mutual
theorem Own.keep (e : Same G G') : ∀ (t : T) (v : V) (fp : List Addr), Own K G H v t fp → On fp H H' → Own K G' H' v t fp
  | .d x, _, _, h, _ => by cases h with | d h => exact .d (h.mono e)
  | .lst ts, _, _, h, o => by cases h with | lst h1 h2 => exact .lst (o _ List.mem_cons_self _ h1) (Owns.keep e ts _ _ h2 o.t)
  | .tup ts, _, _, h, o => by cases h with | tup h1 h2 => exact .tup (o _ List.mem_cons_self _ h1) (Owns.keep e ts _ _ h2 o.t)
  | .dct ts, _, _, h, o => by cases h with | dct h1 h2 => exact .dct (o _ List.mem_cons_self _ h1) (OwnK.keep e ts _ _ h2 o.t)
  | .obj C ts, _, _, h, o => by cases h with | obj h1 h2 => exact .obj (o _ List.mem_cons_self _ h1) (OwnF.keep e ts _ _ h2 o.t)
  | .tag a t, _, _, h, o => by cases h with | tag h1 => exact .tag (Own.keep e t _ _ h1 o)
theorem Owns.keep (e : Same G G') : ∀ (ts : List T) (vs : List V) (fp : List Addr), Owns K G H vs ts fp → On fp H H' → Owns K G' H' vs ts fp
  | [], _, _, h, _ => by cases h; exact .nil
  | t :: ts, _, _, h, o => by cases h with | cons h1 h2 => exact .cons (Own.keep e t _ _ h1 o.l) (Owns.keep e ts _ _ h2 o.r)
theorem OwnK.keep (e : Same G G') : ∀ (ts : List (List Key × T)) (vs : List (List Key × V)) (fp : List Addr), OwnK K G H vs ts fp → On fp H H' → OwnK K G' H' vs ts fp
  | [], _, _, h, _ => by cases h; exact .nil
  | (k, t) :: ts, _, _, h, o => by cases h with | cons h1 h2 => exact .cons (Own.keep e t _ _ h1 o.l) (OwnK.keep e ts _ _ h2 o.r)
theorem OwnF.keep (e : Same G G') : ∀ (ts : List (Str × T)) (vs : List (Str × V)) (fp : List Addr), OwnF K G H vs ts fp → On fp H H' → OwnF K G' H' vs ts fp
  | [], _, _, h, _ => by cases h; exact .nil
  | (k, t) :: ts, _, _, h, o => by cases h with | cons h1 h2 => exact .cons (Own.keep e t _ _ h1 o.l) (OwnF.keep e ts _ _ h2 o.r)
end
mutual
/-- an owned object stands in H -/
theorem Own.there : ∀ (t : T) (v : V) (fp : List Addr), Own K G H v t fp → ∀ a ∈ fp, ∃ o, H a = some o
  | .d x, _, _, h, a, m => by cases h; cases m
  | .lst ts, _, _, h, a, m => by
    cases h with | lst h1 h2 =>
    rcases List.mem_cons.mp m with e | m
    · exact ⟨_, e ▸ h1⟩
    · exact Owns.there ts _ _ h2 a m
  | .tup ts, _, _, h, a, m => by
    cases h with | tup h1 h2 =>
    rcases List.mem_cons.mp m with e | m
    · exact ⟨_, e ▸ h1⟩
    · exact Owns.there ts _ _ h2 a m
  | .dct ts, _, _, h, a, m => by
    cases h with | dct h1 h2 =>
    rcases List.mem_cons.mp m with e | m
    · exact ⟨_, e ▸ h1⟩
    · exact OwnK.there ts _ _ h2 a m
  | .obj C ts, _, _, h, a, m => by
    cases h with | obj h1 h2 =>
    rcases List.mem_cons.mp m with e | m
    · exact ⟨_, e ▸ h1⟩
    · exact OwnF.there ts _ _ h2 a m
  | .tag _ t, _, _, h, a, m => by
    cases h with | tag h1 => exact Own.there t _ _ h1 a m
theorem Owns.there : ∀ (ts : List T) (vs : List V) (fp : List Addr), Owns K G H vs ts fp → ∀ a ∈ fp, ∃ o, H a = some o
  | [], _, _, h, a, m => by cases h; cases m
  | t :: ts, _, _, h, a, m => by
    cases h with | cons h1 h2 =>
    rcases List.mem_append.mp m with m | m
    · exact Own.there t _ _ h1 a m
    · exact Owns.there ts _ _ h2 a m
theorem OwnK.there : ∀ (ts : List (List Key × T)) (vs : List (List Key × V)) (fp : List Addr), OwnK K G H vs ts fp → ∀ a ∈ fp, ∃ o, H a = some o
  | [], _, _, h, a, m => by cases h; cases m
  | (k, t) :: ts, _, _, h, a, m => by
    cases h with | cons h1 h2 =>
    rcases List.mem_append.mp m with m | m
    · exact Own.there t _ _ h1 a m
    · exact OwnK.there ts _ _ h2 a m
theorem OwnF.there : ∀ (ts : List (Str × T)) (vs : List (Str × V)) (fp : List Addr), OwnF K G H vs ts fp → ∀ a ∈ fp, ∃ o, H a = some o
  | [], _, _, h, a, m => by cases h; cases m
  | (k, t) :: ts, _, _, h, a, m => by
    cases h with | cons h1 h2 =>
    rcases List.mem_append.mp m with m | m
    · exact Own.there t _ _ h1 a m
    · exact OwnF.there ts _ _ h2 a m
end
end

mutual
def T.toD : T → D
  | .d x => x
  | .lst ts => .lst (T.toDs ts)
  | .tup ts => .tup (T.toDs ts)
  | .dct ts => .dct (T.toDk ts)
  | .obj C ts => .obj C (T.toDf ts)
  | .tag _ t => t.toD
def T.toDs : List T → List D
  | [] => []
  | t :: ts => t.toD :: T.toDs ts
def T.toDk : List (List Key × T) → List (List Key × D)
  | [] => []
  | (k, t) :: ts => (k, t.toD) :: T.toDk ts
def T.toDf : List (Str × T) → List (Str × D)
  | [] => []
  | (k, t) :: ts => (k, t.toD) :: T.toDf ts
end
theorem T.toDs_map : ∀ ts : List T, T.toDs ts = ts.map T.toD
  | [] => rfl
  | t :: ts => by rw [T.toDs, T.toDs_map ts, List.map_cons]
theorem T.toDs_d : ∀ xs : List D, T.toDs (xs.map T.d) = xs
  | [] => rfl
  | x :: xs => by rw [List.map_cons, T.toDs, T.toDs_d xs]; rfl
section
variable {K : PySem.W.Frag} {G G' H : Hp}
mutual
theorem Own.fz (e : Same G G') : ∀ (t : T) (v : V) (fp : List Addr), Own K G H v t fp → On fp H G' → Dr K G' v t.toD
  | .d x, _, _, h, _ => by cases h with | d h => exact h.mono e
  | .lst ts, _, _, h, o => by cases h with | lst h1 h2 => exact .lst (o _ List.mem_cons_self _ h1) (Owns.fz e ts _ _ h2 o.t)
  | .tup ts, _, _, h, o => by cases h with | tup h1 h2 => exact .tup (o _ List.mem_cons_self _ h1) (Owns.fz e ts _ _ h2 o.t)
  | .dct ts, _, _, h, o => by cases h with | dct h1 h2 => exact .dct (o _ List.mem_cons_self _ h1) (OwnK.fz e ts _ _ h2 o.t)
  | .obj C ts, _, _, h, o => by cases h with | obj h1 h2 => exact .obj (o _ List.mem_cons_self _ h1) (OwnF.fz e ts _ _ h2 o.t)
  | .tag _ t, _, _, h, o => by cases h with | tag h1 => exact Own.fz e t _ _ h1 o
theorem Owns.fz (e : Same G G') : ∀ (ts : List T) (vs : List V) (fp : List Addr), Owns K G H vs ts fp → On fp H G' → Drs K G' vs (T.toDs ts)
  | [], _, _, h, _ => by cases h; exact .nil
  | t :: ts, _, _, h, o => by cases h with | cons h1 h2 => exact .cons (Own.fz e t _ _ h1 o.l) (Owns.fz e ts _ _ h2 o.r)
theorem OwnK.fz (e : Same G G') : ∀ (ts : List (List Key × T)) (vs : List (List Key × V)) (fp : List Addr), OwnK K G H vs ts fp → On fp H G' → DrK K G' vs (T.toDk ts)
  | [], _, _, h, _ => by cases h; exact .nil
  | (k, t) :: ts, _, _, h, o => by cases h with | cons h1 h2 => exact .cons (Own.fz e t _ _ h1 o.l) (OwnK.fz e ts _ _ h2 o.r)
theorem OwnF.fz (e : Same G G') : ∀ (ts : List (Str × T)) (vs : List (Str × V)) (fp : List Addr), OwnF K G H vs ts fp → On fp H G' → DrF K G' vs (T.toDf ts)
  | [], _, _, h, _ => by cases h; exact .nil
  | (k, t) :: ts, _, _, h, o => by cases h with | cons h1 h2 => exact .cons (Own.fz e t _ _ h1 o.l) (OwnF.fz e ts _ _ h2 o.r)
end
theorem Owns.len : ∀ {vs : List V} {ts : List T} {fp : List Addr}, Owns K G H vs ts fp → vs.length = ts.length
  | [], [], _, _ => rfl
  | _ :: vs, _ :: ts, _, h => by cases h with | cons h1 h2 => simp only [List.length_cons, Owns.len h2]
  | [], _ :: _, _, h => by cases h
  | _ :: _, [], _, h => by cases h
theorem Owns.get : ∀ {vs : List V} {ts : List T} {fp : List Addr} {i : Nat} {t : T}, Owns K G H vs ts fp → ts[i]? = some t → ∃ v l1 f l2, vs[i]? = some v ∧ fp = l1 ++ f ++ l2 ∧ Own K G H v t f ∧
    (∀ (G' H' : Hp) (v' : V) (t' : T) (f' : List Addr), Same G G' → On (l1 ++ l2) H H' → Own K G' H' v' t' f' → Owns K G' H' (vs.set i v') (ts.set i t') (l1 ++ f' ++ l2))
  | [], [], _, i, d, _, h => by simp at h
  | v :: vs, e :: ts, _, 0, d, h, q => by
    cases h with | @cons _ _ _ _ f1 f2 h1 h2 =>
    have q' : e = d := by simpa using q
    subst q'
    refine ⟨v, [], f1, f2, rfl, rfl, h1, fun G' H' v' t' f' s o w => ?_⟩
    show Owns K G' H' (v' :: vs) (t' :: ts) ([] ++ f' ++ f2)
    rw [List.nil_append]
    exact .cons w (h2.keep s _ _ _ o)
  | v :: vs, e :: ts, _, i + 1, d, h, q => by
    cases h with | @cons _ _ _ _ f1 f2 h1 h2 =>
    obtain ⟨u, l1, f, l2, a1, a2, a3, a4⟩ := Owns.get h2 (i := i) (t := d) (by simpa using q)
    refine ⟨u, f1 ++ l1, f, l2, by simpa using a1, by rw [a2]; simp, a3, fun G' H' v' t' f' s o w => ?_⟩
    show Owns K G' H' (v :: vs.set i v') (e :: ts.set i t') _
    have z := a4 G' H' v' t' f' s (o.sub fun b hb => by rcases List.mem_append.mp hb with m | m <;> simp [m]) w
    have := Owns.cons (h1.keep s _ _ _ (o.sub fun b hb => by simp [hb])) z
    simpa [List.append_assoc] using this
  | [], _ :: _, _, _, _, h, _ => by cases h
  | _ :: _, [], _, _, _, h, _ => by cases h
theorem Owns.append : ∀ {vs ws : List V} {ts us : List T} {f g : List Addr}, Owns K G H vs ts f → Owns K G H ws us g → Owns K G H (vs ++ ws) (ts ++ us) (f ++ g)
  | [], _, [], _, _, _, h, q => by cases h; exact q
  | v :: vs, _, t :: ts, _, _, _, h, q => by
    cases h with | cons h1 h2 =>
    rw [List.append_assoc]
    exact .cons h1 (Owns.append h2 q)
  | [], _, _ :: _, _, _, _, h, _ => by cases h
  | _ :: _, _, [], _, _, _, h, _ => by cases h
theorem Owns.of_ds : ∀ {vs : List V} {ds : List D}, Drs K G vs ds → Owns K G H vs (ds.map T.d) []
  | [], [], _ => .nil
  | v :: vs, d :: ds, h => by
    cases h with | cons h1 h2 =>
    have := Owns.cons (H := H) (Own.d h1) (Owns.of_ds h2)
    simpa using this
  | [], _ :: _, h => by cases h
  | _ :: _, [], h => by cases h
end
def D.leaf : D → Bool
  | .non | .bl _ | .int _ | .str _ | .adr _ => true
  | _ => false
mutual
def T.flat : T → Bool
  | .d x => x.leaf
  | .lst ts => T.flats ts
  | .tup ts => T.flats ts
  | .dct ts => T.flatk ts
  | .obj _ ts => T.flatf ts
  | .tag _ t => t.flat
def T.flats : List T → Bool
  | [] => true
  | t :: ts => t.flat && T.flats ts
def T.flatk : List (List Key × T) → Bool
  | [] => true
  | (_, t) :: ts => t.flat && T.flatk ts
def T.flatf : List (Str × T) → Bool
  | [] => true
  | (_, t) :: ts => t.flat && T.flatf ts
end
theorem T.flats_all : ∀ ts : List T, T.flats ts = ts.all T.flat
  | [] => rfl
  | t :: ts => by rw [T.flats, T.flats_all ts]; rfl
theorem Dr.leaf {K : PySem.W.Frag} {G G' : Hp} {v : V} {x : D} (h : Dr K G v x) (f : x.leaf = true) : Dr K G' v x := by
  cases h with
  | non => exact .non
  | bl b => exact .bl b
  | int i => exact .int i
  | str i => exact .str i
  | adr i => exact .adr i
  | _ => cases f
section
variable {K : PySem.W.Frag} {G G' H : Hp}
mutual
theorem Own.flat : ∀ (t : T) (v : V) (fp : List Addr), Own K G H v t fp → t.flat = true → Own K G' H v t fp
  | .d x, _, _, h, f => by cases h with | d h => exact .d (h.leaf f)
  | .lst ts, _, _, h, f => by cases h with | lst h1 h2 => exact .lst h1 (Owns.flat ts _ _ h2 f)
  | .tup ts, _, _, h, f => by cases h with | tup h1 h2 => exact .tup h1 (Owns.flat ts _ _ h2 f)
  | .dct ts, _, _, h, f => by cases h with | dct h1 h2 => exact .dct h1 (OwnK.flat ts _ _ h2 f)
  | .obj C ts, _, _, h, f => by cases h with | obj h1 h2 => exact .obj h1 (OwnF.flat ts _ _ h2 f)
  | .tag _ t, _, _, h, f => by cases h with | tag h1 => exact .tag (Own.flat t _ _ h1 f)
theorem Owns.flat : ∀ (ts : List T) (vs : List V) (fp : List Addr), Owns K G H vs ts fp → T.flats ts = true → Owns K G' H vs ts fp
  | [], _, _, h, _ => by cases h; exact .nil
  | t :: ts, _, _, h, f => by
    have f' := Bool.and_eq_true_iff.mp f
    cases h with | cons h1 h2 => exact .cons (Own.flat t _ _ h1 f'.1) (Owns.flat ts _ _ h2 f'.2)
theorem OwnK.flat : ∀ (ts : List (List Key × T)) (vs : List (List Key × V)) (fp : List Addr), OwnK K G H vs ts fp → T.flatk ts = true → OwnK K G' H vs ts fp
  | [], _, _, h, _ => by cases h; exact .nil
  | (k, t) :: ts, _, _, h, f => by
    have f' := Bool.and_eq_true_iff.mp f
    cases h with | cons h1 h2 => exact .cons (Own.flat t _ _ h1 f'.1) (OwnK.flat ts _ _ h2 f'.2)
theorem OwnF.flat : ∀ (ts : List (Str × T)) (vs : List (Str × V)) (fp : List Addr), OwnF K G H vs ts fp → T.flatf ts = true → OwnF K G' H vs ts fp
  | [], _, _, h, _ => by cases h; exact .nil
  | (k, t) :: ts, _, _, h, f => by
    have f' := Bool.and_eq_true_iff.mp f
    cases h with | cons h1 h2 => exact .cons (Own.flat t _ _ h1 f'.1) (OwnF.flat ts _ _ h2 f'.2)
end
end
end DL
namespace DL
open PySem PySem.Spec PyProof.Rows L2

def T.at0 : List Nat → T → Option T
  | [], t => some t
  | k :: p, .lst ts => (ts[k]?).bind (T.at0 p)
  | k :: p, .tup ts => (ts[k]?).bind (T.at0 p)
  | k :: p, .dct ts => (ts[k]?).bind fun q => T.at0 p q.2
  | _ :: _, _ => none
def T.put0 : List Nat → T → T → T
  | [], _, s => s
  | k :: p, .lst ts, s => .lst (ts.modify k fun t => T.put0 p t s)
  | k :: p, .tup ts, s => .tup (ts.modify k fun t => T.put0 p t s)
  | k :: p, .dct ts, s => .dct (ts.modify k fun q => (q.1, T.put0 p q.2 s))
  | _ :: _, t, _ => t
def atV (H : Hp) : List Nat → V → Option V
  | [], v => some v
  | k :: p, .ref a => match H a with
    | some (.lst vs) => (vs[k]?).bind (atV H p)
    | some (.tup vs) => (vs[k]?).bind (atV H p)
    | some (.dT vs) => (vs[k]?).bind fun q => atV H p q.2
    | _ => none
  | _ :: _, _ => none
theorem atV_same {H H' : Hp} (e : Same H H') : ∀ {p : List Nat} {v u : V}, atV H p v = some u → atV H' p v = some u
  | [], v, u, h => h
  | k :: p, v, u, h => by
    cases v with
    | ref a =>
      unfold atV at h ⊢
      cases q : H a with
      | none => rw [q] at h; cases h
      | some o =>
        rw [e a o q]
        rw [q] at h
        cases o with
        | lst vs =>
          obtain ⟨x, h1, h2⟩ := Option.bind_eq_some_iff.mp h
          exact Option.bind_eq_some_iff.mpr ⟨x, h1, atV_same e h2⟩
        | tup vs =>
          obtain ⟨x, h1, h2⟩ := Option.bind_eq_some_iff.mp h
          exact Option.bind_eq_some_iff.mpr ⟨x, h1, atV_same e h2⟩
        | dT vs =>
          obtain ⟨x, h1, h2⟩ := Option.bind_eq_some_iff.mp h
          exact Option.bind_eq_some_iff.mpr ⟨x, h1, atV_same e h2⟩
        | _ => cases h
    | _ => cases h
theorem modify_at {α : Type} (f : α → α) : ∀ {l : List α} {k : Nat} {x : α}, l[k]? = some x → l.modify k f = l.set k (f x)
  | [], k, x, h => by simp at h
  | a :: l, 0, x, h => by
    have e : a = x := by simpa using h
    subst e
    simp
  | a :: l, k + 1, x, h => by
    have ih := modify_at f (l := l) (k := k) (x := x) (by simpa using h)
    simp [ih]
section
variable {K : PySem.W.Frag} {G H : Hp}
theorem OwnK.get : ∀ {vs : List (List Key × V)} {ts : List (List Key × T)} {fp : List Addr} {i : Nat} {q : List Key × T}, OwnK K G H vs ts fp → ts[i]? = some q → ∃ v l1 f l2, vs[i]? = some (q.1, v) ∧ fp = l1 ++ f ++ l2 ∧ Own K G H v q.2 f ∧
    (∀ (G' H' : Hp) (v' : V) (t' : T) (f' : List Addr), Same G G' → On (l1 ++ l2) H H' → Own K G' H' v' t' f' → OwnK K G' H' (vs.modify i fun z => (z.1, v')) (ts.modify i fun z => (z.1, t')) (l1 ++ f' ++ l2))
  | [], [], _, i, q, _, h => by simp at h
  | (k, v) :: vs, (k', e) :: ts, _, 0, q, h, hq => by
    cases h with | @cons _ _ _ _ _ f1 f2 h1 h2 =>
    have q' : (k, e) = q := by simpa using hq
    subst q'
    refine ⟨v, [], f1, f2, rfl, rfl, h1, fun G' H' v' t' f' s o w => ?_⟩
    show OwnK K G' H' ((k, v') :: vs) ((k, t') :: ts) ([] ++ f' ++ f2)
    rw [List.nil_append]
    exact .cons w (h2.keep s _ _ _ o)
  | (k, v) :: vs, (k', e) :: ts, _, i + 1, q, h, hq => by
    cases h with | @cons _ _ _ _ _ f1 f2 h1 h2 =>
    obtain ⟨u, l1, f, l2, a1, a2, a3, a4⟩ := OwnK.get h2 (i := i) (q := q) (by simpa using hq)
    refine ⟨u, f1 ++ l1, f, l2, by simpa using a1, by rw [a2]; simp, a3, fun G' H' v' t' f' s o w => ?_⟩
    have z := a4 G' H' v' t' f' s (o.sub fun b hb => by rcases List.mem_append.mp hb with m | m <;> simp [m]) w
    have := OwnK.cons (k := k) (h1.keep s _ _ _ (o.sub fun b hb => by simp [hb])) z
    simpa [List.append_assoc] using this
  | [], _ :: _, _, _, _, h, _ => by cases h
  | _ :: _, [], _, _, _, h, _ => by cases h
theorem Own.focus0 : ∀ {p : List Nat} {t s : T} {v : V} {fp : List Addr}, Own K G H v t fp → T.at0 p t = some s → ∃ u l1 f l2, fp = l1 ++ f ++ l2 ∧ atV H p v = some u ∧ Own K G H u s f ∧
    ∀ (G' H' : Hp) (s' : T) (f' : List Addr), Same G G' → On (l1 ++ l2) H H' → Own K G' H' u s' f' → Own K G' H' v (T.put0 p t s') (l1 ++ f' ++ l2)
  | [], t, s, v, fp, h, e => by
    have e' : t = s := by simpa [T.at0] using e
    subst e'
    refine ⟨v, [], fp, [], by simp, rfl, h, fun G' H' s' f' a b w => ?_⟩
    simpa [T.put0] using w
  | k :: p, t, s, v, fp, h, e => by
    cases t with
    | d x => simp [T.at0] at e
    | obj _ _ => simp [T.at0] at e
    | tag _ _ => simp [T.at0] at e
    | lst ts =>
      cases h with | @lst a vs _ fp0 h1 h2 =>
      obtain ⟨t0, e1, e2⟩ := Option.bind_eq_some_iff.mp (show (ts[k]?).bind (T.at0 p) = some s from e)
      obtain ⟨u0, l1, f, l2, b1, b2, b3, b4⟩ := h2.get e1
      obtain ⟨u, m1, g, m2, c1, c2, c3, c4⟩ := Own.focus0 b3 e2
      refine ⟨u, a :: (l1 ++ m1), g, m2 ++ l2, by rw [b2, c1]; simp, ?_, c3, fun G' H' s' f' q o w => ?_⟩
      · unfold atV; rw [h1]; exact Option.bind_eq_some_iff.mpr ⟨u0, b1, c2⟩
      · have z := c4 G' H' s' f' q (o.sub fun b hb => by rcases List.mem_append.mp hb with m | m <;> simp [m]) w
        have y := b4 G' H' u0 _ _ q (o.sub fun b hb => by rcases List.mem_append.mp hb with m | m <;> simp [m]) z
        have hv : vs.set k u0 = vs := by
          obtain ⟨hk, ek⟩ := List.getElem?_eq_some_iff.mp b1
          rw [← ek, List.set_getElem_self]
        have ht : ts.modify k (fun t => T.put0 p t s') = ts.set k (T.put0 p t0 s') := by
          rw [modify_at _ e1]
        rw [hv] at y
        have := Own.lst (o a (by simp) _ h1) y
        show Own K G' H' (V.ref a) (.lst (ts.modify k fun t => T.put0 p t s')) _
        rw [ht]
        simpa [List.append_assoc] using this
    | tup ts =>
      cases h with | @tup a vs _ fp0 h1 h2 =>
      obtain ⟨t0, e1, e2⟩ := Option.bind_eq_some_iff.mp (show (ts[k]?).bind (T.at0 p) = some s from e)
      obtain ⟨u0, l1, f, l2, b1, b2, b3, b4⟩ := h2.get e1
      obtain ⟨u, m1, g, m2, c1, c2, c3, c4⟩ := Own.focus0 b3 e2
      refine ⟨u, a :: (l1 ++ m1), g, m2 ++ l2, by rw [b2, c1]; simp, ?_, c3, fun G' H' s' f' q o w => ?_⟩
      · unfold atV; rw [h1]; exact Option.bind_eq_some_iff.mpr ⟨u0, b1, c2⟩
      · have z := c4 G' H' s' f' q (o.sub fun b hb => by rcases List.mem_append.mp hb with m | m <;> simp [m]) w
        have y := b4 G' H' u0 _ _ q (o.sub fun b hb => by rcases List.mem_append.mp hb with m | m <;> simp [m]) z
        have hv : vs.set k u0 = vs := by
          obtain ⟨hk, ek⟩ := List.getElem?_eq_some_iff.mp b1
          rw [← ek, List.set_getElem_self]
        have ht : ts.modify k (fun t => T.put0 p t s') = ts.set k (T.put0 p t0 s') := by
          rw [modify_at _ e1]
        rw [hv] at y
        have := Own.tup (o a (by simp) _ h1) y
        show Own K G' H' (V.ref a) (.tup (ts.modify k fun t => T.put0 p t s')) _
        rw [ht]
        simpa [List.append_assoc] using this
    | dct ts =>
      cases h with | @dct a vs _ fp0 h1 h2 =>
      obtain ⟨t0, e1, e2⟩ := Option.bind_eq_some_iff.mp (show (ts[k]?).bind (fun q => T.at0 p q.2) = some s from e)
      obtain ⟨u0, l1, f, l2, b1, b2, b3, b4⟩ := h2.get e1
      obtain ⟨u, m1, g, m2, c1, c2, c3, c4⟩ := Own.focus0 b3 e2
      refine ⟨u, a :: (l1 ++ m1), g, m2 ++ l2, by rw [b2, c1]; simp, ?_, c3, fun G' H' s' f' q o w => ?_⟩
      · unfold atV; rw [h1]; exact Option.bind_eq_some_iff.mpr ⟨_, b1, c2⟩
      · have z := c4 G' H' s' f' q (o.sub fun b hb => by rcases List.mem_append.mp hb with m | m <;> simp [m]) w
        have y := b4 G' H' u0 _ _ q (o.sub fun b hb => by rcases List.mem_append.mp hb with m | m <;> simp [m]) z
        have hv : vs.modify k (fun z => (z.1, u0)) = vs := by
          rw [modify_at _ b1]
          obtain ⟨hk, ek⟩ := List.getElem?_eq_some_iff.mp b1
          show vs.set k (t0.1, u0) = vs
          rw [← ek, List.set_getElem_self]
        have ht : ts.modify k (fun q => (q.1, T.put0 p q.2 s')) = ts.modify k (fun z => (z.1, T.put0 p t0.2 s')) := by
          rw [modify_at _ e1, modify_at _ e1]
        rw [hv] at y
        have := Own.dct (o a (by simp) _ h1) y
        show Own K G' H' (V.ref a) (.dct (ts.modify k fun q => (q.1, T.put0 p q.2 s'))) _
        rw [ht]
        simpa [List.append_assoc] using this
/-- a tag at the root is looked through -/
def T.strip : T → T
  | .tag _ t => t
  | t => t
def T.at (p : List Nat) (t : T) : Option T := T.at0 p t.strip
def T.put (p : List Nat) (t s : T) : T := match t with
  | .tag a t => .tag a (T.put0 p t s)
  | t => T.put0 p t s
theorem Own.focus {p : List Nat} {t s : T} {v : V} {fp : List Addr} (h : Own K G H v t fp) (e : T.at p t = some s) : ∃ u l1 f l2, fp = l1 ++ f ++ l2 ∧ atV H p v = some u ∧ Own K G H u s f ∧
    ∀ (G' H' : Hp) (s' : T) (f' : List Addr), Same G G' → On (l1 ++ l2) H H' → Own K G' H' u s' f' → Own K G' H' v (T.put p t s') (l1 ++ f' ++ l2) := by
  cases t with
  | tag a t =>
    cases h with | tag h =>
    obtain ⟨u, l1, f, l2, a1, a2, a3, a4⟩ := Own.focus0 h e
    exact ⟨u, l1, f, l2, a1, a2, a3, fun G' H' s' f' x y z => .tag (a4 G' H' s' f' x y z)⟩
  | _ => exact Own.focus0 h e
end

/-- what an expression has come to: a tree of its own, or a place in a slot's tree -/
inductive R where
  | tm (t : T) | pl (i : Nat) (p : List Nat)
abbrev Rho := List (Option T)
section
variable (K : PySem.W.Frag) (G H : Hp)
inductive Slots : Rho → L2.St → List Addr → Prop
  | nil : Slots [] [] []
  | non {ρ σ fp x} : Slots ρ σ fp → Slots (none :: ρ) (x :: σ) fp
  | som {ρ σ v t f1 f2} : Own K G H v t f1 → Slots ρ σ f2 → Slots (some t :: ρ) (some v :: σ) (f1 ++ f2)
inductive Temps (ρ : Rho) (σ : L2.St) : List (V × R) → List Addr → Prop
  | nil : Temps ρ σ [] []
  | tm {τ v t f1 f2} : Own K G H v t f1 → Temps ρ σ τ f2 → Temps ρ σ ((v, .tm t) :: τ) (f1 ++ f2)
  | pl {τ v i p u t s f} : σ[i]? = some (some u) → ρ[i]? = some (some t) → T.at p t = some s → atV H p u = some v → Temps ρ σ τ f → Temps ρ σ ((v, .pl i p) :: τ) f
end
structure Cst where
  H0 : Hp
  B : Hp
  F0 : List Addr
structure Core (c : Cst) (G H : Hp) (fp : List Addr) : Prop where
  sub : Same G H
  base : Same c.B G
  newG : ∀ a o, G a = some o → (∃ o', c.B a = some o') ∨ c.H0 a = none ∨ a ∈ c.F0
  prot : ∀ a o, c.H0 a = some o → a ∉ c.F0 → H a = some o
  there : ∀ a o, c.H0 a = some o → ∃ o', H a = some o'
  nd : fp.Nodup
  own : ∀ a ∈ fp, G a = none ∧ (a ∈ c.F0 ∨ c.H0 a = none)
def St (K : PySem.W.Frag) (c : Cst) (ρ : Rho) (τ : List (V × R)) (σ : L2.St) (H : Hp) : Prop :=
  ∃ G fs ft, Core c G H (fs ++ ft) ∧ Slots K G H ρ σ fs ∧ Temps K G H ρ σ τ ft

section
variable {K : PySem.W.Frag} {G G' H H' : Hp} {c : Cst} {ρ : Rho} {σ : L2.St} {τ : List (V × R)} {fp f f1 f2 : List Addr}
theorem Slots.keep (e : Same G G') : ∀ {ρ : Rho} {σ : L2.St} {fp : List Addr}, Slots K G H ρ σ fp → On fp H H' → Slots K G' H' ρ σ fp
  | _, _, _, .nil, _ => .nil
  | _, _, _, .non h, o => .non (Slots.keep e h o)
  | _, _, _, .som h1 h2, o => .som (h1.keep e _ _ _ o.l) (Slots.keep e h2 o.r)
theorem Slots.there : ∀ {ρ : Rho} {σ : L2.St} {fp : List Addr}, Slots K G H ρ σ fp → ∀ a ∈ fp, ∃ o, H a = some o
  | _, _, _, .nil, _, m => by cases m
  | _, _, _, .non h, a, m => Slots.there h a m
  | _, _, _, .som h1 h2, a, m => by
    rcases List.mem_append.mp m with m | m
    · exact h1.there _ _ _ a m
    · exact Slots.there h2 a m
theorem Slots.len : ∀ {ρ : Rho} {σ : L2.St} {fp : List Addr}, Slots K G H ρ σ fp → ρ.length = σ.length
  | _, _, _, .nil => rfl
  | _, _, _, .non h => by simp [Slots.len h]
  | _, _, _, .som h1 h2 => by simp [Slots.len h2]
theorem Slots.get : ∀ {ρ : Rho} {σ : L2.St} {fp : List Addr} {i : Nat} {t : T}, Slots K G H ρ σ fp → ρ[i]? = some (some t) → ∃ v l1 f l2, σ[i]? = some (some v) ∧ fp = l1 ++ f ++ l2 ∧ Own K G H v t f ∧
    ∀ (G' H' : Hp) (v' : V) (t' : T) (f' : List Addr), Same G G' → On (l1 ++ l2) H H' → Own K G' H' v' t' f' → Slots K G' H' (ρ.set i (some t')) (σ.set i (some v')) (l1 ++ f' ++ l2)
  | _, _, _, i, t, .nil, h => by simp at h
  | none :: ρ, x :: σ, fp, 0, t, .non h, q => by simp at q
  | none :: ρ, x :: σ, fp, i + 1, t, .non h, q => by
    obtain ⟨v, l1, f, l2, a1, a2, a3, a4⟩ := Slots.get (i := i) h (by simpa using q)
    exact ⟨v, l1, f, l2, by simpa using a1, a2, a3, fun G' H' v' t' f' s o w => .non (a4 G' H' v' t' f' s o w)⟩
  | some t0 :: ρ, some v :: σ, _, 0, t, .som (f1 := f1) (f2 := f2) h1 h2, q => by
    have e : t0 = t := by simpa using q
    subst e
    refine ⟨v, [], f1, f2, rfl, rfl, h1, fun G' H' v' t' f' s o w => ?_⟩
    show Slots K G' H' (some t' :: ρ) (some v' :: σ) ([] ++ f' ++ f2)
    rw [List.nil_append]
    exact .som w (h2.keep s o)
  | some t0 :: ρ, some v :: σ, _, i + 1, t, .som (f1 := f1) (f2 := f2) h1 h2, q => by
    obtain ⟨u, l1, f, l2, a1, a2, a3, a4⟩ := Slots.get (i := i) h2 (by simpa using q)
    refine ⟨u, f1 ++ l1, f, l2, by simpa using a1, by rw [a2]; simp, a3, fun G' H' v' t' f' s o w => ?_⟩
    have z := a4 G' H' v' t' f' s (o.sub fun b hb => by rcases List.mem_append.mp hb with m | m <;> simp [m]) w
    have := Slots.som (h1.keep s _ _ _ (o.sub fun b hb => by simp [hb])) z
    simpa [List.append_assoc] using this
/-- a slot's tree let go -/
theorem Slots.drop : ∀ {ρ : Rho} {σ : L2.St} {fp : List Addr} (i : Nat) (x : Option V), Slots K G H ρ σ fp → ∃ fp', fp'.Sublist fp ∧ Slots K G H (ρ.set i none) (σ.set i x) fp'
  | _, _, _, i, x, .nil => ⟨[], .slnil, by simpa using Slots.nil⟩
  | none :: ρ, y :: σ, fp, 0, x, .non h => ⟨fp, .refl _, .non h⟩
  | none :: ρ, y :: σ, fp, i + 1, x, .non h => by
    obtain ⟨fp', s, w⟩ := Slots.drop i x h
    exact ⟨fp', s, .non w⟩
  | some t0 :: ρ, some v :: σ, _, 0, x, .som (f1 := f1) (f2 := f2) h1 h2 => ⟨f2, List.sublist_append_right _ _, .non h2⟩
  | some t0 :: ρ, some v :: σ, _, i + 1, x, .som (f1 := f1) (f2 := f2) h1 h2 => by
    obtain ⟨fp', s, w⟩ := Slots.drop i x h2
    exact ⟨f1 ++ fp', s.append_left f1, .som h1 w⟩
/-- a slot is stored -/
theorem Slots.store {v : V} {t : T} : ∀ {ρ : Rho} {σ : L2.St} {fp : List Addr} (i : Nat), i < ρ.length → Slots K G H ρ σ fp → Own K G H v t f → ∃ l1 l2, (l1 ++ l2).Sublist fp ∧ Slots K G H (ρ.set i (some t)) (σ.set i (some v)) (l1 ++ f ++ l2)
  | _, _, _, i, hi, .nil, _ => by simp at hi
  | none :: ρ, y :: σ, fp, 0, _, .non h, w => ⟨[], fp, by simp, by simpa using Slots.som w h⟩
  | none :: ρ, y :: σ, fp, i + 1, hi, .non h, w => by
    obtain ⟨l1, l2, s, z⟩ := Slots.store i (by simpa using hi) h w
    exact ⟨l1, l2, s, .non z⟩
  | some t0 :: ρ, some v :: σ, _, 0, _, .som (f1 := f1) (f2 := f2) h1 h2, w => ⟨[], f2, by simp, by simpa using Slots.som w h2⟩
  | some t0 :: ρ, some v :: σ, _, i + 1, hi, .som (f1 := f1) (f2 := f2) h1 h2, w => by
    obtain ⟨l1, l2, s, z⟩ := Slots.store i (by simpa using hi) h2 w
    refine ⟨f1 ++ l1, l2, by rw [List.append_assoc]; exact s.append_left f1, ?_⟩
    have := Slots.som h1 z
    simpa [List.append_assoc] using this
theorem Temps.keep (e : Same G G') (s : Same H H') : ∀ {τ : List (V × R)} {fp : List Addr}, Temps K G H ρ σ τ fp → Temps K G' H' ρ σ τ fp
  | _, _, .nil => .nil
  | _, _, .tm h1 h2 => .tm (h1.keep e _ _ _ (.of s)) (Temps.keep e s h2)
  | _, _, .pl a1 a2 a3 a4 h => .pl a1 a2 a3 (atV_same s a4) (Temps.keep e s h)
theorem Temps.there : ∀ {τ : List (V × R)} {fp : List Addr}, Temps K G H ρ σ τ fp → ∀ a ∈ fp, ∃ o, H a = some o
  | _, _, .nil, _, m => by cases m
  | _, _, .tm h1 h2, a, m => by
    rcases List.mem_append.mp m with m | m
    · exact h1.there _ _ _ a m
    · exact Temps.there h2 a m
  | _, _, .pl _ _ _ _ h, a, m => Temps.there h a m
def isTm : R → Bool
  | .tm _ => true
  | .pl _ _ => false
def TmOnly (τ : List (V × R)) : Prop := ∀ q ∈ τ, isTm q.2 = true
theorem TmOnly.cons {v : V} {t : T} (h : TmOnly τ) : TmOnly ((v, .tm t) :: τ) := fun q hq => by
  rcases List.mem_cons.mp hq with e | m
  · rw [e]; rfl
  · exact h q m
theorem Temps.move {ρ' : Rho} {σ' : L2.St} (e : Same G G') : ∀ {τ : List (V × R)} {fp : List Addr}, Temps K G H ρ σ τ fp → TmOnly τ → On fp H H' → Temps K G' H' ρ' σ' τ fp
  | _, _, .nil, _, _ => .nil
  | _, _, .tm h1 h2, t, o => .tm (h1.keep e _ _ _ o.l) (Temps.move e h2 (fun q hq => t q (List.mem_cons_of_mem _ hq)) o.r)
  | _, _, .pl a1 a2 a3 a4 h, t, o => by have := t _ List.mem_cons_self; cases this
theorem Core.sl {fp' : List Addr} (C : Core c G H fp) (s : fp'.Sublist fp) : Core c G H fp' :=
  ⟨C.sub, C.base, C.newG, C.prot, C.there, s.nodup C.nd, fun a m => C.own a (s.subset m)⟩
theorem Core.perm {fp' : List Addr} (C : Core c G H fp) (s : fp.Perm fp') : Core c G H fp' :=
  ⟨C.sub, C.base, C.newG, C.prot, C.there, s.nodup_iff.mp C.nd, fun a m => C.own a (s.mem_iff.mpr m)⟩
theorem Core.grow (C : Core c G H fp) (s : Same H H') : Core c G H' fp :=
  ⟨C.sub.trans s, C.base, C.newG, fun a o e n => s a o (C.prot a o e n), fun a o e => let ⟨o', q⟩ := C.there a o e; ⟨o', s a o' q⟩, C.nd, C.own⟩
/-- H grows -/
theorem St.same (h : St K c ρ τ σ H) (s : Same H H') : St K c ρ τ σ H' := by
  obtain ⟨G, fs, ft, C, S, M⟩ := h
  exact ⟨G, fs, ft, C.grow s, S.keep (Same.refl _) (.of s), M.keep (Same.refl _) s⟩
/-- the newest temporary let go -/
theorem St.pop {x : V × R} (h : St K c ρ (x :: τ) σ H) : St K c ρ τ σ H := by
  obtain ⟨G, fs, ft, C, S, M⟩ := h
  cases M with
  | tm h1 h2 => exact ⟨G, fs, _, C.sl ((List.sublist_append_right _ _).append_left fs), S, h2⟩
  | pl _ _ _ _ h2 => exact ⟨G, fs, _, C, S, h2⟩
/-- a value that hangs on no object -/
theorem St.push {v : V} {x : D} (h : St K c ρ τ σ H) (d : ∀ G, Dr K G v x) : St K c ρ ((v, .tm (.d x)) :: τ) σ H := by
  obtain ⟨G, fs, ft, C, S, M⟩ := h
  exact ⟨G, fs, [] ++ ft, by simpa using C, S, .tm (.d (d G)) M⟩
theorem St.int {i : Int} (h : St K c ρ τ σ H) : St K c ρ ((.int i, .tm (.d (.int i))) :: τ) σ H := h.push fun _ => .int i
/-- a slot that holds data, read -/
theorem St.var {i : Nat} {x : D} (h : St K c ρ τ σ H) (e : ρ[i]? = some (some (.d x))) : ∃ v, σ[i]? = some (some v) ∧ St K c ρ ((v, .tm (.d x)) :: τ) σ H := by
  obtain ⟨G, fs, ft, C, S, M⟩ := h
  obtain ⟨v, l1, f, l2, a1, a2, a3, _⟩ := S.get e
  refine ⟨v, a1, G, fs, [] ++ ft, by simpa using C, S, .tm ?_ M⟩
  cases a3 with | d q => exact .d q
/-- a slot, as a place -/
theorem St.place {i : Nat} {t : T} (h : St K c ρ τ σ H) (e : ρ[i]? = some (some t)) : ∃ v, σ[i]? = some (some v) ∧ St K c ρ ((v, .pl i []) :: τ) σ H := by
  obtain ⟨G, fs, ft, C, S, M⟩ := h
  obtain ⟨v, l1, f, l2, a1, a2, a3, _⟩ := S.get e
  exact ⟨v, a1, G, fs, ft, C, S, .pl a1 e rfl rfl M⟩
/-- a temporary's tree -/
def view (ρ : Rho) : R → Option T
  | .tm t => some t
  | .pl i p => match ρ[i]? with
    | some (some t) => T.at p t
    | _ => none
/-- the newest temporary as it stands; and what comes behind where its objects are left alone -/
theorem St.top {v : V} {r : R} {t : T} (h : St K c ρ ((v, r) :: τ) σ H) (e : view ρ r = some t) : ∃ G f, Same G H ∧ Own K G H v t f ∧ f.Nodup ∧ ∀ a ∈ f, G a = none := by
  obtain ⟨G, fs, ft, C, S, M⟩ := h
  cases M with
  | @tm _ _ t0 f1 f2 h1 h2 =>
    have e' : t0 = t := by simpa [view] using e
    subst e'
    have s : f1.Sublist (fs ++ (f1 ++ f2)) := (List.sublist_append_left _ _).trans (List.sublist_append_right _ _)
    exact ⟨G, f1, C.sub, h1, s.nodup C.nd, fun a m => (C.own a (s.subset m)).1⟩
  | @pl _ _ i p u t0 s f a1 a2 a3 a4 h2 =>
    have e' : T.at p t0 = some t := by simpa [view, a2] using e
    obtain ⟨v0, l1, f0, l2, b1, b2, b3, _⟩ := S.get a2
    rw [a1] at b1
    cases b1
    obtain ⟨u0, m1, f', m2, c1, c2, c3, _⟩ := b3.focus e'
    rw [a4] at c2
    cases c2
    have s : f'.Sublist (fs ++ ft) := by
      rw [b2, c1]
      refine List.Sublist.trans ?_ (List.sublist_append_left _ _)
      refine List.Sublist.trans ?_ (List.sublist_append_left _ _)
      refine List.Sublist.trans ?_ (List.sublist_append_right _ _)
      refine List.Sublist.trans ?_ (List.sublist_append_left _ _)
      exact List.sublist_append_right _ _
    exact ⟨G, f', C.sub, c3, s.nodup C.nd, fun a m => (C.own a (s.subset m)).1⟩
/-- .. read as data -/
theorem St.see {v : V} {r : R} {t : T} (h : St K c ρ ((v, r) :: τ) σ H) (e : view ρ r = some t) : Dr K H v t.toD := by
  obtain ⟨G, f, s, o, _, _⟩ := h.top e
  exact o.fz s _ _ _ (.of (Same.refl _))
/-- what stands at f becomes known -/
def fzG (G H : Hp) (f : List Addr) : Hp := fun a => if a ∈ f then H a else G a
theorem Core.fz {g : List Addr} (C : Core c G H fp) (p : fp.Perm (f ++ g)) : Core c (fzG G H f) H g ∧ Same G (fzG G H f) ∧ On f H (fzG G H f) := by
  have C' := C.perm p
  obtain ⟨n1, n2, n3⟩ := List.nodup_append.mp C'.nd
  have e1 : Same G (fzG G H f) := fun a o q => by
    show (if a ∈ f then H a else G a) = some o
    by_cases m : a ∈ f
    · rw [if_pos m]; exact C.sub a o q
    · rw [if_neg m]; exact q
  refine ⟨⟨fun a o q => ?_, C.base.trans e1, fun a o q => ?_, C.prot, C.there, n2, fun a m => ?_⟩, e1, fun a m o q => ?_⟩
  · by_cases m : a ∈ f
    · simp only [fzG, if_pos m] at q; exact q
    · simp only [fzG, if_neg m] at q; exact C.sub a o q
  · by_cases m : a ∈ f
    · rcases (C'.own a (List.mem_append_left _ m)).2 with z | z
      · exact .inr (.inr z)
      · exact .inr (.inl z)
    · simp only [fzG, if_neg m] at q; exact C.newG a o q
  · have nm : a ∉ f := fun z => n3 a z a m rfl
    show (if a ∈ f then H a else G a) = none ∧ _
    rw [if_neg nm]
    exact C'.own a (List.mem_append_right _ m)
  · show (if a ∈ f then H a else G a) = some o
    rw [if_pos m]; exact q
/-- the newest temporary becomes data -/
theorem St.fz {v : V} {t : T} (h : St K c ρ ((v, .tm t) :: τ) σ H) : St K c ρ ((v, .tm (.d t.toD)) :: τ) σ H := by
  obtain ⟨G, fs, ft, C, S, M⟩ := h
  cases M with
  | @tm _ _ _ f1 f2 h1 h2 =>
    obtain ⟨C', e1, e2⟩ := C.fz (f := f1) (g := fs ++ f2) (by rw [← List.append_assoc, ← List.append_assoc]; exact List.Perm.append_right f2 List.perm_append_comm)
    exact ⟨_, fs, [] ++ f2, by simpa using C', S.keep e1 (.of (Same.refl _)), .tm (.d (h1.fz e1 _ _ _ e2)) (h2.keep e1 (Same.refl _))⟩
/-- a slot's tree becomes data -/
theorem St.fzSlot {i : Nat} {t : T} (h : St K c ρ τ σ H) (e : ρ[i]? = some (some t)) (tm : TmOnly τ) : St K c (ρ.set i (some (.d t.toD))) τ σ H := by
  obtain ⟨G, fs, ft, C, S, M⟩ := h
  obtain ⟨v, l1, f, l2, a1, a2, a3, a4⟩ := S.get e
  subst a2
  obtain ⟨C', e1, e2⟩ := C.fz (f := f) (g := (l1 ++ l2) ++ ft) (by
    rw [← List.append_assoc]
    refine List.Perm.append_right ft ?_
    rw [List.append_assoc]
    refine (List.perm_append_comm (l₁ := l1)).trans ?_
    rw [List.append_assoc]
    exact List.Perm.append_left f List.perm_append_comm)
  have w := a4 (fzG G H f) H v (.d t.toD) [] e1 (.of (Same.refl _)) (.d (a3.fz e1 _ _ _ e2))
  have hs : σ.set i (some v) = σ := by
    obtain ⟨hk, ek⟩ := List.getElem?_eq_some_iff.mp a1
    rw [← ek, List.set_getElem_self]
  rw [hs] at w
  exact ⟨_, l1 ++ [] ++ l2, ft, by simpa using C', w, M.move e1 tm (.of (Same.refl _))⟩
/-- the newest temporary is stored in a slot -/
theorem St.store {v : V} {t : T} {i : Nat} (h : St K c ρ ((v, .tm t) :: τ) σ H) (hi : i < ρ.length) (tm : TmOnly τ) : St K c (ρ.set i (some t)) τ (σ.set i (some v)) H := by
  obtain ⟨G, fs, ft, C, S, M⟩ := h
  cases M with
  | @tm _ _ _ f1 f2 h1 h2 =>
    obtain ⟨l1, l2, s, w⟩ := S.store i hi h1
    refine ⟨G, _, f2, ?_, w, h2.move (Same.refl _) tm (.of (Same.refl _))⟩
    have C' : Core c G H ((l1 ++ l2) ++ (f1 ++ f2)) := C.sl (s.append_right _)
    refine C'.perm ?_
    rw [List.append_assoc, List.append_assoc, List.append_assoc]
    refine List.Perm.append_left l1 ?_
    rw [← List.append_assoc, ← List.append_assoc]
    exact List.Perm.append_right f2 List.perm_append_comm
/-- a slot forgotten (its value may be any) -/
theorem St.forget {i : Nat} {x : Option V} (h : St K c ρ τ σ H) (tm : TmOnly τ) : St K c (ρ.set i none) τ (σ.set i x) H := by
  obtain ⟨G, fs, ft, C, S, M⟩ := h
  obtain ⟨fp', s, w⟩ := S.drop i x
  exact ⟨G, fp', ft, C.sl (s.append_right _), w, M.move (Same.refl _) tm (.of (Same.refl _))⟩
theorem St.len (h : St K c ρ τ σ H) : ρ.length = σ.length := let ⟨_, _, _, _, S, _⟩ := h; S.len
end
end DL
namespace DL
open PySem PySem.Spec PyProof.Rows L2

section
variable (X : Cx)
def teS (e : Expr) : TE := fun σ H Q => ∀ pins s, Inv X pins σ H s → wpAny (model X.prog X.w) X.A (eval e X.env) (EP X pins σ Q) X.xe s
def ttS (e : Expr) : TT := fun σ H Q => ∀ pins s, Inv X pins σ H s → wpAny (model X.prog X.w) X.A (isTrue e X.env (eval e X.env)) (TP X pins σ Q) X.xe s
def taS (es : List Expr) : TA := fun σ H Q => ∀ pos pins s, Inv X pins σ H s → wpAny (model X.prog X.w) X.A (spliced (backTo pos (starEach es X.env))) (AP X pins σ Q) X.xe s
def tsS (st : Stmt) : TS := fun D σ H => ∀ pins s, Inv X pins σ H s → wpAny (model X.prog X.w) X.A (exec st X.env) (SP X pins D) X.xe s
def tbS (st : List Stmt) : TS := fun D σ H => ∀ pins s, Inv X pins σ H s → wpAny (model X.prog X.w) X.A (execs st X.env) (SP X pins D) X.xe s
end
section
variable {X : Cx} {e : Expr} {es : List Expr} {st : Stmt} {sts : List Stmt} {te : TE} {tt : TT} {ta : TA} {ts : TS} {σ : L2.St} {H : Hp} {Q : VK}
theorem peS : PE X e (teS X e) := ⟨fun pins s σ H Q I h => h pins s I⟩
theorem ptS : PT X e (ttS X e) := ⟨fun pins s σ H Q I h => h pins s I⟩
theorem paS : PA X es (taS X es) := ⟨fun pos pins s σ H Q I h => h pos pins s I⟩
theorem psS : PS X st (tsS X st) := ⟨fun pins s σ H D I h => h pins s I⟩
theorem pbS : PSs X sts (tbS X sts) := ⟨fun pins s σ H D I h => h pins s I⟩
theorem te_of (h : PE X e te) (q : te σ H Q) : teS X e σ H Q := fun pins s I => h.run pins s σ H Q I q
theorem tt_of (h : PT X e tt) {Q : Bool → Hp → Prop} (q : tt σ H Q) : ttS X e σ H Q := fun pins s I => h.run pins s σ H Q I q
theorem ta_of (h : PA X es ta) {Q : List V → Hp → Prop} (q : ta σ H Q) : taS X es σ H Q := fun pos pins s I => h.run pos pins s σ H Q I q
theorem ts_of (h : PS X st ts) {D : Ends} (q : ts D σ H) : tsS X st D σ H := fun pins s I => h.run pins s σ H D I q
theorem tb_of (h : PSs X sts ts) {D : Ends} (q : ts D σ H) : tbS X sts D σ H := fun pins s I => h.run pins s σ H D I q
end

/-- an argument list's values -/
def StA (K : PySem.W.Frag) (c : Cst) (ρ : Rho) (vs : List V) (ts : List T) (τ : List (V × R)) (σ : L2.St) (H : Hp) : Prop :=
  ∃ G fs fa ft, Core c G H (fs ++ (fa ++ ft)) ∧ Slots K G H ρ σ fs ∧ Owns K G H vs ts fa ∧ Temps K G H ρ σ τ ft
section
variable (X : Cx)
/-- e comes to r -/
def E (ρ : Rho) (e : Expr) (r : R) : Prop := ∀ c τ σ H, St X.K c ρ τ σ H → ∀ Q : VK, (∀ v H', St X.K c ρ ((v, r) :: τ) σ H' → Q v H') → teS X e σ H Q
def Tt (ρ : Rho) (e : Expr) (b : Bool) : Prop := ∀ c τ σ H, St X.K c ρ τ σ H → ∀ Q : Bool → Hp → Prop, (∀ H', St X.K c ρ τ σ H' → Q b H') → ttS X e σ H Q
def EA (ρ : Rho) (es : List Expr) (ts : List T) : Prop := ∀ c τ σ H, St X.K c ρ τ σ H → ∀ Q : List V → Hp → Prop, (∀ vs H', StA X.K c ρ vs ts τ σ H' → Q vs H') → taS X es σ H Q
end
/-- what is wanted behind a statement -/
structure Ph where
  nx : Rho → Prop
  rt : T → Rho → Prop := fun _ _ => False
  bk : Rho → Prop := fun _ => False
  ct : Rho → Prop := fun _ => False
  ex : Value → Rho → Prop := fun _ _ => False
structure Post (K : PySem.W.Frag) (W : WX) (Φ : Ph) (c : Cst) (τ : List (V × R)) (D : Ends) : Prop where
  nx : ∀ ρ σ H, Φ.nx ρ → St K c ρ τ σ H → D.nx σ H
  rt : ∀ t ρ v σ H, Φ.rt t ρ → St K c ρ ((v, .tm t) :: τ) σ H → D.rt v H
  bk : ∀ ρ σ H, Φ.bk ρ → St K c ρ τ σ H → D.bk σ H
  ct : ∀ ρ σ H, Φ.ct ρ → St K c ρ τ σ H → D.ct σ H
  ex : ∀ cls ρ σ H, Φ.ex cls ρ → St K c ρ τ σ H → W cls none σ H
section
variable (X : Cx) (W : WX)
def S1 (ρ : Rho) (st : Stmt) (Φ : Ph) : Prop := ∀ c τ σ H, TmOnly τ → St X.K c ρ τ σ H → ∀ D, Post X.K W Φ c τ D → tsS X st D σ H
def S (ρ : Rho) (sts : List Stmt) (Φ : Ph) : Prop := ∀ c τ σ H, TmOnly τ → St X.K c ρ τ σ H → ∀ D, Post X.K W Φ c τ D → tbS X sts D σ H
end

section
variable {X : Cx} {W : WX} {ρ : Rho} {Φ : Ph} {st : Stmt} {sts rest : List Stmt} {a b e : Expr} {es : List Expr} {r r1 r2 : R} {t t1 t2 : T} {pos : Pos}

theorem s_nil (h : Φ.nx ρ) : S X W ρ [] Φ := fun c τ σ H tm s D P => tb_of pss_nil (P.nx _ _ _ h s)
theorem s_cons (h : S1 X W ρ st { Φ with nx := fun ρ' => S X W ρ' rest Φ }) : S X W ρ (st :: rest) Φ := fun c τ σ H tm s D P => by
  refine tb_of (pss_cons psS pbS) (h c τ σ H tm s { D with nx := tbS X rest D } ⟨fun ρ' σ' H' q s' => ?_, P.rt, P.bk, P.ct, P.ex⟩)
  exact q c τ σ' H' tm s' D P
theorem s_one (h : S1 X W ρ st Φ) : S X W ρ [st] Φ := fun c τ σ H tm s D P => tb_of (pss_one psS) (h c τ σ H tm s D P)
theorem S1.mono {Φ' : Ph} (h : S1 X W ρ st Φ) (nx : ∀ ρ, Φ.nx ρ → Φ'.nx ρ) (rt : ∀ t ρ, Φ.rt t ρ → Φ'.rt t ρ) (bk : ∀ ρ, Φ.bk ρ → Φ'.bk ρ) (ct : ∀ ρ, Φ.ct ρ → Φ'.ct ρ) (ex : ∀ v ρ, Φ.ex v ρ → Φ'.ex v ρ) : S1 X W ρ st Φ' :=
  fun c τ σ H tm s D P => h c τ σ H tm s D ⟨fun ρ σ H q => P.nx ρ σ H (nx _ q), fun t ρ v σ H q => P.rt t ρ v σ H (rt _ _ q), fun ρ σ H q => P.bk ρ σ H (bk _ q), fun ρ σ H q => P.ct ρ σ H (ct _ q), fun cls ρ σ H q => P.ex cls ρ σ H (ex _ _ q)⟩
theorem S.mono {Φ' : Ph} (h : S X W ρ sts Φ) (nx : ∀ ρ, Φ.nx ρ → Φ'.nx ρ) (rt : ∀ t ρ, Φ.rt t ρ → Φ'.rt t ρ) (bk : ∀ ρ, Φ.bk ρ → Φ'.bk ρ) (ct : ∀ ρ, Φ.ct ρ → Φ'.ct ρ) (ex : ∀ v ρ, Φ.ex v ρ → Φ'.ex v ρ) : S X W ρ sts Φ' :=
  fun c τ σ H tm s D P => h c τ σ H tm s D ⟨fun ρ σ H q => P.nx ρ σ H (nx _ q), fun t ρ v σ H q => P.rt t ρ v σ H (rt _ _ q), fun ρ σ H q => P.bk ρ σ H (bk _ q), fun ρ σ H q => P.ct ρ σ H (ct _ q), fun cls ρ σ H q => P.ex cls ρ σ H (ex _ _ q)⟩
/-- a middle: what holds behind the first statement -/
theorem s_mid (J : Rho → Prop) (h : S1 X W ρ st { Φ with nx := J }) (k : ∀ ρ', J ρ' → S X W ρ' rest Φ) : S X W ρ (st :: rest) Φ :=
  s_cons (h.mono (fun ρ' q => k ρ' q) (fun _ _ q => q) (fun _ q => q) (fun _ q => q) (fun _ _ q => q))
theorem list_set_none {i : Nat} {σ : L2.St} {x : Option V} (h : σ[i]? = some x) : σ.set i x = σ := by
  obtain ⟨hk, ek⟩ := List.getElem?_eq_some_iff.mp h
  rw [← ek, List.set_getElem_self]
/-- a slot is forgotten -/
theorem s_forget (i : Nat) (h : S X W (ρ.set i none) sts Φ) : S X W ρ sts Φ := fun c τ σ H tm s D P => by
  refine h c τ σ H tm ?_ D P
  by_cases hi : i < σ.length
  · have z := s.forget (i := i) (x := σ[i]) tm
    rwa [List.set_getElem_self] at z
  · have e : ρ.set i none = ρ := List.set_eq_of_length_le (by rw [s.len]; omega)
    rw [e]; exact s
/-- a slot's tree becomes data -/
theorem s_fz (i : Nat) (t : T) (ht : ρ[i]? = some (some t)) (h : S X W (ρ.set i (some (.d t.toD))) sts Φ) : S X W ρ sts Φ := fun c τ σ H tm s D P => h c τ σ H tm (s.fzSlot ht tm) D P
end

section
variable {K : PySem.W.Frag} {c : Cst} {ρ : Rho} {τ : List (V × R)} {σ : L2.St} {H : Hp}
theorem St.vint {v : V} {i : Int} (s : St K c ρ ((v, .tm (.d (.int i))) :: τ) σ H) : v = .int i := by
  have q := s.see (t := .d (.int i)) rfl
  cases q; rfl
theorem St.vbl {v : V} {i : Bool} (s : St K c ρ ((v, .tm (.d (.bl i))) :: τ) σ H) : v = .bl i := by
  have q := s.see (t := .d (.bl i)) rfl
  cases q; rfl
theorem St.vstr {v : V} {i : Str} (s : St K c ρ ((v, .tm (.d (.str i))) :: τ) σ H) : v = .str i := by
  have q := s.see (t := .d (.str i)) rfl
  cases q; rfl
theorem St.vnon {v : V} (s : St K c ρ ((v, .tm (.d .non)) :: τ) σ H) : v = .non := by
  have q := s.see (t := .d .non) rfl
  cases q; rfl
theorem St.vadr {v : V} {a : Addr} (s : St K c ρ ((v, .tm (.d (.adr a))) :: τ) σ H) : v = .ref a := by
  have q := s.see (t := .d (.adr a)) rfl
  cases q; rfl
/-- out of the newest temporary's data -/
theorem St.derive {v : V} {x y : D} {P : V → Prop} (s : St K c ρ ((v, .tm (.d x)) :: τ) σ H) (f : ∀ G, Same G H → Dr K G v x → ∃ u, P u ∧ Dr K G u y) : ∃ u, P u ∧ St K c ρ ((u, .tm (.d y)) :: τ) σ H := by
  obtain ⟨G, fs, ft, C, L, M⟩ := s
  cases M with
  | @tm _ _ _ f1 f2 h1 h2 =>
    cases h1 with | d h1 =>
    obtain ⟨u, pu, hu⟩ := f G C.sub h1
    exact ⟨u, pu, G, fs, [] ++ f2, C, L, .tm (.d hu) h2⟩
theorem atV_app {p q : List Nat} : ∀ {v u w : V}, atV H p v = some u → atV H q u = some w → atV H (p ++ q) v = some w := by
  induction p with
  | nil =>
    intro v u w h1 h2
    have e : v = u := by simpa [atV] using h1
    subst e
    exact h2
  | cons k p ih =>
    intro v u w h1 h2
    cases v with
    | ref a =>
      show atV H (k :: (p ++ q)) (.ref a) = some w
      unfold atV at h1 ⊢
      cases e : H a with
      | none => rw [e] at h1; cases h1
      | some o =>
        rw [e] at h1
        cases o with
        | lst vs =>
          obtain ⟨x, z1, z2⟩ := Option.bind_eq_some_iff.mp h1
          exact Option.bind_eq_some_iff.mpr ⟨x, z1, ih z2 h2⟩
        | tup vs =>
          obtain ⟨x, z1, z2⟩ := Option.bind_eq_some_iff.mp h1
          exact Option.bind_eq_some_iff.mpr ⟨x, z1, ih z2 h2⟩
        | dT vs =>
          obtain ⟨x, z1, z2⟩ := Option.bind_eq_some_iff.mp h1
          exact Option.bind_eq_some_iff.mpr ⟨x, z1, ih z2 h2⟩
        | _ => cases h1
    | _ => cases h1
theorem T.at0_app {p q : List Nat} : ∀ {t s r : T}, T.at0 p t = some s → T.at0 q s = some r → T.at0 (p ++ q) t = some r := by
  induction p with
  | nil =>
    intro t s r h1 h2
    have e : t = s := by simpa [T.at0] using h1
    subst e
    exact h2
  | cons k p ih =>
    intro t s r h1 h2
    cases t with
    | d x => cases h1
    | obj _ _ => cases h1
    | tag _ _ => cases h1
    | lst ts =>
      obtain ⟨x, z1, z2⟩ := Option.bind_eq_some_iff.mp (show (ts[k]?).bind (T.at0 p) = some s from h1)
      exact Option.bind_eq_some_iff.mpr ⟨x, z1, ih z2 h2⟩
    | tup ts =>
      obtain ⟨x, z1, z2⟩ := Option.bind_eq_some_iff.mp (show (ts[k]?).bind (T.at0 p) = some s from h1)
      exact Option.bind_eq_some_iff.mpr ⟨x, z1, ih z2 h2⟩
    | dct ts =>
      obtain ⟨x, z1, z2⟩ := Option.bind_eq_some_iff.mp (show (ts[k]?).bind (fun q => T.at0 p q.2) = some s from h1)
      exact Option.bind_eq_some_iff.mpr ⟨x, z1, ih z2 h2⟩
theorem T.at_app {p q : List Nat} {t s r : T} (h1 : T.at p t = some s) (h2 : T.at0 q s = some r) : T.at (p ++ q) t = some r := T.at0_app h1 h2
/-- the newest temporary, a place: what stands there, and a part of it -/
theorem St.part {v : V} {i : Nat} {p : List Nat} {t : T} {P : V → Prop} {q : List Nat} {s' : T} (s : St K c ρ ((v, .pl i p) :: τ) σ H) (e : view ρ (.pl i p) = some t) (eq : T.at0 q t = some s')
    (f : ∀ G g, Own K G H v t g → ∃ u, P u ∧ atV H q v = some u) : ∃ u, P u ∧ St K c ρ ((u, .pl i (p ++ q)) :: τ) σ H := by
  obtain ⟨G, fs, ft, C, L, M⟩ := s
  cases M with
  | @pl _ _ i p u0 t0 s0 g a1 a2 a3 a4 h2 =>
    have e' : T.at p t0 = some t := by simpa [view, a2] using e
    obtain ⟨v0, l1, f0, l2, b1, b2, b3, _⟩ := L.get a2
    rw [a1] at b1
    cases b1
    obtain ⟨w0, m1, f', m2, c1, c2, c3, _⟩ := b3.focus e'
    rw [a4] at c2
    cases c2
    obtain ⟨u, pu, hu⟩ := f G f' c3
    exact ⟨u, pu, G, fs, ft, C, L, .pl a1 a2 (T.at_app e' eq) (atV_app a4 hu) h2⟩
theorem St.partD {v : V} {i : Nat} {p : List Nat} {t : T} {P : V → Prop} {y : D} (s : St K c ρ ((v, .pl i p) :: τ) σ H) (e : view ρ (.pl i p) = some t)
    (f : ∀ G g, Same G H → Own K G H v t g → ∃ u, P u ∧ Dr K G u y) : ∃ u, P u ∧ St K c ρ ((u, .tm (.d y)) :: τ) σ H := by
  obtain ⟨G, fs, ft, C, L, M⟩ := s
  cases M with
  | @pl _ _ i p u0 t0 s0 g a1 a2 a3 a4 h2 =>
    have e' : T.at p t0 = some t := by simpa [view, a2] using e
    obtain ⟨v0, l1, f0, l2, b1, b2, b3, _⟩ := L.get a2
    rw [a1] at b1
    cases b1
    obtain ⟨w0, m1, f', m2, c1, c2, c3, _⟩ := b3.focus e'
    rw [a4] at c2
    cases c2
    obtain ⟨u, pu, hu⟩ := f G f' C.sub c3
    exact ⟨u, pu, G, fs, [] ++ ft, by simpa using C, L, .tm (.d hu) h2⟩
/-- a part of the newest temporary's own tree -/
theorem St.partT {v : V} {t t' : T} {P : V → Prop} (s : St K c ρ ((v, .tm t) :: τ) σ H)
    (f : ∀ G g, Own K G H v t g → ∃ u g', P u ∧ Own K G H u t' g' ∧ g'.Sublist g) : ∃ u, P u ∧ St K c ρ ((u, .tm t') :: τ) σ H := by
  obtain ⟨G, fs, ft, C, L, M⟩ := s
  cases M with
  | @tm _ _ _ f1 f2 h1 h2 =>
    obtain ⟨u, g', pu, hu, sb⟩ := f G f1 h1
    exact ⟨u, pu, G, fs, g' ++ f2, C.sl ((sb.append_right f2).append_left fs), L, .tm hu h2⟩
/-- a new object out of an argument list -/
theorem StA.new {vs : List V} {ts : List T} {p : Addr} {o : HO} {t : T} (s : StA K c ρ vs ts τ σ H) (hp : H p = none)
    (f : ∀ G fa, Same G H → Owns K G (upd H p o) vs ts fa → ∃ g, g.Sublist fa ∧ Own K G (upd H p o) (.ref p) t (p :: g)) : St K c ρ ((.ref p, .tm t) :: τ) σ (upd H p o) := by
  obtain ⟨G, fs, fa, ft, C, L, A, M⟩ := s
  have sm : Same H (upd H p o) := fun a u e => by rw [upd_ne (ne_of_none e hp)]; exact e
  have nG : G p = none := by
    cases q : G p with
    | none => rfl
    | some u => have := C.sub p u q; rw [hp] at this; cases this
  have n0 : c.H0 p = none := by
    cases q : c.H0 p with
    | none => rfl
    | some u => obtain ⟨o', z⟩ := C.there p u q; rw [hp] at z; cases z
  have np : p ∉ fs ++ (fa ++ ft) := fun m => by
    have : ∃ o, H p = some o := by
      rcases List.mem_append.mp m with m | m
      · exact L.there p m
      · rcases List.mem_append.mp m with m | m
        · exact A.there _ _ _ p m
        · exact M.there p m
    obtain ⟨o', z⟩ := this
    rw [hp] at z; cases z
  have C1 := C.grow sm
  obtain ⟨g, sg, w⟩ := f G fa C.sub (A.keep (Same.refl _) _ _ _ (.of sm))
  have C2 : Core c G (upd H p o) (p :: (fs ++ (fa ++ ft))) := ⟨C1.sub, C1.base, C1.newG, C1.prot, C1.there, List.nodup_cons.mpr ⟨np, C1.nd⟩, fun a m => by
    rcases List.mem_cons.mp m with e | m
    · subst e; exact ⟨nG, .inr n0⟩
    · exact C1.own a m⟩
  refine ⟨G, fs, (p :: g) ++ ft, ?_, L.keep (Same.refl _) (.of sm), .tm w (M.keep (Same.refl _) sm)⟩
  refine (C2.sl (fp' := p :: (fs ++ (g ++ ft))) ?_).perm ?_
  · exact ((sg.append_right ft).append_left fs).cons₂ p
  · show (p :: (fs ++ (g ++ ft))).Perm (fs ++ (p :: (g ++ ft)))
    exact List.perm_middle.symm
theorem StA.nil (s : St K c ρ τ σ H) : StA K c ρ [] [] τ σ H := by
  obtain ⟨G, fs, ft, C, L, M⟩ := s
  exact ⟨G, fs, [], ft, C, L, .nil, M⟩
theorem StA.cons {v : V} {t : T} {vs : List V} {ts : List T} (s : StA K c ρ vs ts ((v, .tm t) :: τ) σ H) : StA K c ρ (v :: vs) (t :: ts) τ σ H := by
  obtain ⟨G, fs, fa, ft, C, L, A, M⟩ := s
  cases M with
  | @tm _ _ _ f1 f2 h1 h2 =>
    refine ⟨G, fs, f1 ++ fa, f2, C.perm ?_, L, .cons h1 A, h2⟩
    refine List.Perm.append_left fs ?_
    rw [← List.append_assoc]
    exact List.Perm.append_right f2 List.perm_append_comm
/-- the newest temporary alone as an argument list -/
theorem StA.one {v : V} {t : T} (s : St K c ρ ((v, .tm t) :: τ) σ H) : StA K c ρ [v] [t] τ σ H := (StA.nil s).cons
theorem StA.two {v u : V} {t t' : T} (s : St K c ρ ((u, .tm t') :: (v, .tm t) :: τ) σ H) : StA K c ρ [v, u] [t, t'] τ σ H := (StA.one s).cons
theorem StA.drop {vs : List V} {ts : List T} (s : StA K c ρ vs ts τ σ H) : St K c ρ τ σ H := by
  obtain ⟨G, fs, fa, ft, C, L, A, M⟩ := s
  exact ⟨G, fs, ft, C.sl ((List.sublist_append_right _ _).append_left fs), L, M⟩
/-- a new object out of nothing that is owned -/
theorem St.new {p : Addr} {o : HO} {t : T} (s : St K c ρ τ σ H) (hp : H p = none) (f : ∀ G, Same G H → Own K G (upd H p o) (.ref p) t [p]) : St K c ρ ((.ref p, .tm t) :: τ) σ (upd H p o) :=
  (StA.nil s).new hp fun G fa e w => by cases w; exact ⟨[], .slnil, f G e⟩
/-- .. out of the newest temporary's data, which stays below -/
theorem St.newD {v : V} {x : D} {p : Addr} {o : HO} {t : T} (s : St K c ρ ((v, .tm (.d x)) :: τ) σ H) (hp : H p = none) (f : ∀ G, Same G H → Dr K G v x → Own K G (upd H p o) (.ref p) t [p]) : St K c ρ ((.ref p, .tm t) :: τ) σ (upd H p o) :=
  (StA.one s).new hp fun G fa e w => by
    cases w with | cons w1 w2 =>
    cases w1 with | d w1 =>
    cases w2
    exact ⟨[], .slnil, f G e w1⟩
end

section
variable {X : Cx} {W : WX} {ρ : Rho} {Φ : Ph} {a b e : Expr} {es : List Expr} {r r1 r2 : R} {t t1 t2 : T} {ts : List T} {pos : Pos} {i j : Int} {nm : Str} {x y : D} {ds : List D}
theorem e_var (n : Nat) (hρ : ρ[n]? = some (some (.d x)) := by rfl) (hN : X.N[n]? = some nm := by rfl) (hv : Vis X.env.scope nm := by first | exact Or.inl rfl | exact Or.inr (Or.inl rfl) | exact Or.inr (Or.inr rfl)) (hd : (nm == ("__debug__" : Str)) = false := by decide)
    (hcd : (nm == ("__classdict__" : Str)) = false := by decide) : E X ρ (.Name nm pos) (.tm (.d x)) := fun c τ σ H s Q k =>
  te_of (pe_var hN hv hd hcd) (let ⟨v, a, s'⟩ := s.var hρ; ⟨v, a, k v H s'⟩)
theorem e_varP (n : Nat) (hρ : ρ[n]? = some (some t) := by rfl) (hN : X.N[n]? = some nm := by rfl) (hv : Vis X.env.scope nm := by first | exact Or.inl rfl | exact Or.inr (Or.inl rfl) | exact Or.inr (Or.inr rfl)) (hd : (nm == ("__debug__" : Str)) = false := by decide)
    (hcd : (nm == ("__classdict__" : Str)) = false := by decide) : E X ρ (.Name nm pos) (.pl n []) := fun c τ σ H s Q k =>
  te_of (pe_var hN hv hd hcd) (let ⟨v, a, s'⟩ := s.place hρ; ⟨v, a, k v H s'⟩)
theorem e_int {k pos} : E X ρ (.Constant (.int i) k pos) (.tm (.d (.int i))) := fun c τ σ H s Q k => te_of pe_int (k _ _ s.int)
theorem e_bl {z k pos} : E X ρ (.Constant (.bool z) k pos) (.tm (.d (.bl z))) := fun c τ σ H s Q k => te_of pe_bl (k _ _ (s.push fun _ => .bl z))
theorem e_non {k pos} : E X ρ (.Constant .none k pos) (.tm (.d .non)) := fun c τ σ H s Q k => te_of pe_non (k _ _ (s.push fun _ => .non))
theorem e_str {z k pos} : E X ρ (.Constant (.str z) k pos) (.tm (.d (.str z))) := fun c τ σ H s Q k => te_of pe_str (k _ _ (s.push fun _ => .str z))
/-- a class, a def, as a value -/
theorem e_gref {A : Addr} (hm : X.mg nm = some (.ref A)) (hg : Gl X nm := by rfl) (hd : (nm == ("__debug__" : Str)) = false := by decide) : E X ρ (.Name nm pos) (.tm (.d (.adr A))) := fun c τ σ H s Q k => te_of (pe_glob hg hm (v := .ref A) rfl hd) (k _ _ (s.push fun _ => .adr A))
theorem e_gint {z : Int} {tk : Tok} (hm : X.mg nm = some (.int z tk)) (hg : Gl X nm := by rfl) (hd : (nm == ("__debug__" : Str)) = false := by decide) : E X ρ (.Name nm pos) (.tm (.d (.int z))) := fun c τ σ H s Q k => te_of (pe_glob hg hm (v := .int z) ⟨tk, rfl⟩ hd) (k _ _ s.int)
theorem e_gstr {z : Str} {tk : Tok} (hm : X.mg nm = some (.str z tk)) (hg : Gl X nm := by rfl) (hd : (nm == ("__debug__" : Str)) = false := by decide) : E X ρ (.Name nm pos) (.tm (.d (.str z))) := fun c τ σ H s Q k => te_of (pe_glob hg hm (v := .str z) ⟨tk, rfl⟩ hd) (k _ _ (s.push fun _ => .str z))
/-- what has come as a tree of its own is taken as data -/
theorem e_fz (h : E X ρ e (.tm t)) : E X ρ e (.tm (.d t.toD)) := fun c τ σ H s Q k => h c τ σ H s Q fun v H' s' => k v H' s'.fz
theorem e_as (h : E X ρ e r) (q : r = r1) : E X ρ e r1 := q ▸ h

theorem e_op {op : Operator} {rr : R2} (ho : OpR X (binaryOp op) rr) (ha : E X ρ a r1) (hb : E X ρ b r2)
    (f : ∀ c τ σ H v u, St X.K c ρ ((u, r2) :: (v, r1) :: τ) σ H → ∀ Q : VK, (∀ w H', St X.K c ρ ((w, r) :: τ) σ H' → Q w H') → rr v u H Q) : E X ρ (.BinOp a op b pos) r := fun c τ σ H s Q k =>
  te_of (pe_op ho peS peS) (ha c τ σ H s _ fun v H1 s1 => hb c _ σ H1 s1 _ fun u H2 s2 => f c τ σ H2 v u s2 Q k)
theorem e_opI {op : Operator} {C : Int → Int → Prop} {g : Int → Int → Int} (ho : OpR X (binaryOp op) (rI C fun i j => .int (g i j))) (ha : E X ρ a (.tm (.d (.int i)))) (hb : E X ρ b (.tm (.d (.int j)))) (hc : C i j) : E X ρ (.BinOp a op b pos) (.tm (.d (.int (g i j)))) :=
  e_op ho ha hb fun c τ σ H v u s Q k => by
    obtain rfl := s.vint
    obtain rfl := s.pop.vint
    exact ⟨i, j, rfl, rfl, hc, k _ _ s.pop.pop.int⟩
theorem e_opI0 {op : Operator} {g : Int → Int → Int} (ho : OpR X (binaryOp op) (rI0 fun i j => .int (g i j))) (ha : E X ρ a (.tm (.d (.int i)))) (hb : E X ρ b (.tm (.d (.int j)))) : E X ρ (.BinOp a op b pos) (.tm (.d (.int (g i j)))) :=
  e_op ho ha hb fun c τ σ H v u s Q k => by
    obtain rfl := s.vint
    obtain rfl := s.pop.vint
    exact ⟨i, j, rfl, rfl, k _ _ s.pop.pop.int⟩
theorem e_add (ha : E X ρ a (.tm (.d (.int i)))) (hb : E X ρ b (.tm (.d (.int j)))) : E X ρ (.BinOp a .Add b pos) (.tm (.d (.int (i + j)))) := e_opI0 op_add ha hb
theorem e_sub (ha : E X ρ a (.tm (.d (.int i)))) (hb : E X ρ b (.tm (.d (.int j)))) : E X ρ (.BinOp a .Sub b pos) (.tm (.d (.int (i - j)))) := e_opI0 op_sub ha hb
theorem e_mul (ha : E X ρ a (.tm (.d (.int i)))) (hb : E X ρ b (.tm (.d (.int j)))) (hc : CMul i j) : E X ρ (.BinOp a .Mult b pos) (.tm (.d (.int (i * j)))) := e_opI op_mul ha hb hc
theorem e_mod (ha : E X ρ a (.tm (.d (.int i)))) (hb : E X ρ b (.tm (.d (.int j)))) (hc : 0 < j) : E X ρ (.BinOp a .Mod b pos) (.tm (.d (.int (i % j)))) := e_opI (C := fun _ j => 0 < j) op_mod ha hb hc
theorem e_fdiv (ha : E X ρ a (.tm (.d (.int i)))) (hb : E X ρ b (.tm (.d (.int j)))) (hc : CDiv i j) : E X ρ (.BinOp a .FloorDiv b pos) (.tm (.d (.int (i / j)))) := e_opI op_fdiv ha hb hc
theorem e_pow (ha : E X ρ a (.tm (.d (.int i)))) (hb : E X ρ b (.tm (.d (.int j)))) (hc : CPow i j) : E X ρ (.BinOp a .Pow b pos) (.tm (.d (.int (i ^ j.toNat)))) := e_opI op_pow ha hb hc
theorem e_neg (ha : E X ρ a (.tm (.d (.int i)))) : E X ρ (.UnaryOp .USub a pos) (.tm (.d (.int (-i)))) := fun c τ σ H s Q k =>
  te_of (pe_un un_neg peS) (ha c τ σ H s _ fun v H1 s1 => by
    obtain rfl := s1.vint
    exact ⟨i, rfl, k _ _ s1.pop.int⟩)

end
section
variable (X : Cx)
def pcS (op : CmpOp) (a b : Expr) : TE := fun σ H Q => ∀ pins s, Inv X pins σ H s →
    wpAny (model X.prog X.w) X.A (eval a X.env) (fun v s₁ => wpAny (model X.prog X.w) X.A (eval b X.env) (fun u s₂ => wpAny (model X.prog X.w) X.A (compareOp op v u) (EP X pins σ Q) X.xe s₂) X.xe s₁) X.xe s
def CJ (ρ : Rho) (op : CmpOp) (a b : Expr) (k : Bool) : Prop := ∀ c τ σ H, St X.K c ρ τ σ H → ∀ Q : VK, (∀ H', St X.K c ρ τ σ H' → Q (.bl k) H') → pcS X op a b σ H Q
end
section
variable {X : Cx} {W : WX} {ρ : Rho} {Φ : Ph} {a b e : Expr} {es : List Expr} {r r1 r2 : R} {t t1 t2 : T} {ts : List T} {pos : Pos} {i j : Int} {nm : Str} {x y : D} {ds : List D} {op : CmpOp} {k : Bool}
theorem pcSS : PC X op a b (pcS X op a b) := ⟨fun pins s σ H Q I h => h pins s I⟩
theorem cj_op {rr : R2} (ho : OpR X (compareOp op) rr) (ha : E X ρ a r1) (hb : E X ρ b r2)
    (f : ∀ c τ σ H v u, St X.K c ρ ((u, r2) :: (v, r1) :: τ) σ H → ∀ Q : VK, (∀ H', St X.K c ρ τ σ H' → Q (.bl k) H') → rr v u H Q) : CJ X ρ op a b k := fun c τ σ H s Q kk => fun pins s0 I =>
  binT (Q := EP X pins σ Q) (R := fun v u H2 => rr v u H2 Q) peS peS I (ha c τ σ H s _ fun v H1 s1 => hb c _ σ H1 s1 _ fun u H2 s2 => f c τ σ H2 v u s2 Q kk) fun v u s2 x y H2 I2 rx ry q => ho pins s2 σ H2 x y v u Q I2 rx ry q
theorem cj_pc {t : TE} (h : PC X op a b t) (f : ∀ c τ σ H, St X.K c ρ τ σ H → ∀ Q : VK, (∀ H', St X.K c ρ τ σ H' → Q (.bl k) H') → t σ H Q) : CJ X ρ op a b k := fun c τ σ H s Q kk pins s0 I => h.run pins s0 σ H Q I (f c τ σ H s Q kk)
theorem e_cmp (h : CJ X ρ op a b k) (hm : behindInMarks op b = false := by first | exact nobehind _ (by decide) (by decide) | rfl) : E X ρ (.Compare a [op] [b] pos) (.tm (.d (.bl k))) := fun c τ σ H s Q q =>
  te_of (pe_cmp pcSS hm) (h c τ σ H s Q fun H' s' => q _ _ (s'.push fun _ => .bl k))
theorem t_cmp (h : CJ X ρ op a b k) (hm : behindInMarks op b = false := by first | exact nobehind _ (by decide) (by decide) | rfl) : Tt X ρ (.Compare a [op] [b] pos) k := fun c τ σ H s Q q =>
  tt_of (pt_cmp pcSS hm) (h c τ σ H s _ fun H' s' => ⟨k, rfl, q _ s'⟩)
theorem t_val (h : E X ρ e (.tm (.d (.bl k)))) (he : ∀ whole, isTrue e X.env whole = (do let v ← whole; standAt e.pos; holding [v] (truthy v)) := by intro _; rfl) : Tt X ρ e k := fun c τ σ H s Q q =>
  tt_of (pt_val peS he) (h c τ σ H s _ fun v H' s' => by
    obtain rfl := s'.vbl
    exact ⟨k, rfl, q _ s'.pop⟩)
theorem cj_int {p : Int → Int → Bool} (ho : OpR X (compareOp op) (rI0 fun i j => .bl (p i j))) (ha : E X ρ a (.tm (.d (.int i)))) (hb : E X ρ b (.tm (.d (.int j)))) : CJ X ρ op a b (p i j) := cj_op ho ha hb fun c τ σ H v u s Q q => by
  obtain rfl := s.vint
  obtain rfl := s.pop.vint
  exact ⟨i, j, rfl, rfl, q _ s.pop.pop⟩
theorem c_lt (ha : E X ρ a (.tm (.d (.int i)))) (hb : E X ρ b (.tm (.d (.int j)))) : CJ X ρ .Lt a b (decide (i < j)) := cj_int op_lt ha hb
theorem c_le (ha : E X ρ a (.tm (.d (.int i)))) (hb : E X ρ b (.tm (.d (.int j)))) : CJ X ρ .LtE a b (decide (i ≤ j)) := cj_int op_le ha hb
theorem c_gt (ha : E X ρ a (.tm (.d (.int i)))) (hb : E X ρ b (.tm (.d (.int j)))) : CJ X ρ .Gt a b (decide (j < i)) := cj_int op_gt ha hb
theorem c_ge (ha : E X ρ a (.tm (.d (.int i)))) (hb : E X ρ b (.tm (.d (.int j)))) : CJ X ρ .GtE a b (decide (j ≤ i)) := cj_int op_ge ha hb
/-- flat data -/
def D.flat : D → Option V
  | .non => some .non | .bl b => some (.bl b) | .int i => some (.int i) | .str x => some (.str x) | _ => none
theorem Dr.flat {K : PySem.W.Frag} {G : Hp} {v w : V} (h : Dr K G v x) (e : x.flat = some w) : v = w := by
  cases x <;> simp [D.flat] at e <;> cases h <;> exact e
theorem c_eqF {v w : V} (ha : E X ρ a (.tm (.d x))) (hb : E X ρ b (.tm (.d y))) (hx : x.flat = some v := by rfl) (hy : y.flat = some w := by rfl) (hs : scal v w = true := by rfl) : CJ X ρ .Eq a b (decide (v = w)) := cj_op op_eq ha hb fun c τ σ H v' u s Q q => by
  have e1 := (s.see (t := .d y) rfl).flat hy
  have e2 := (s.pop.see (t := .d x) rfl).flat hx
  subst e1 e2
  exact ⟨hs, q _ s.pop.pop⟩
theorem c_neF {v w : V} (ha : E X ρ a (.tm (.d x))) (hb : E X ρ b (.tm (.d y))) (hx : x.flat = some v := by rfl) (hy : y.flat = some w := by rfl) (hs : scal v w = true := by rfl) : CJ X ρ .NotEq a b (!decide (v = w)) := cj_op op_ne ha hb fun c τ σ H v' u s Q q => by
  have e1 := (s.see (t := .d y) rfl).flat hy
  have e2 := (s.pop.see (t := .d x) rfl).flat hx
  subst e1 e2
  exact ⟨hs, q _ s.pop.pop⟩
theorem cj_as {k' : Bool} (h : CJ X ρ op a b k) (e : k = k') : CJ X ρ op a b k' := e ▸ h
theorem c_eqI (ha : E X ρ a (.tm (.d (.int i)))) (hb : E X ρ b (.tm (.d (.int j)))) : CJ X ρ .Eq a b (decide (i = j)) := cj_as (c_eqF ha hb) (by simp)
theorem c_neI (ha : E X ρ a (.tm (.d (.int i)))) (hb : E X ρ b (.tm (.d (.int j)))) : CJ X ρ .NotEq a b (!decide (i = j)) := cj_as (c_neF ha hb) (by simp)
theorem c_eqS {z w : Str} (ha : E X ρ a (.tm (.d (.str z)))) (hb : E X ρ b (.tm (.d (.str w)))) : CJ X ρ .Eq a b (decide (z = w)) := cj_as (c_eqF ha hb) (by simp)
theorem c_neS {z w : Str} (ha : E X ρ a (.tm (.d (.str z)))) (hb : E X ρ b (.tm (.d (.str w)))) : CJ X ρ .NotEq a b (!decide (z = w)) := cj_as (c_neF ha hb) (by simp)
def D.isN : D → Bool
  | .non => true | _ => false
theorem Dr.isN {K : PySem.W.Frag} {G : Hp} {v : V} (h : Dr K G v x) : decide (v = .non) = x.isN := by
  cases h <;> simp [D.isN]
def T.isN : T → Bool
  | .d x => x.isN | _ => false
theorem Own.isN {K : PySem.W.Frag} {G H : Hp} {v : V} {f : List Addr} (h : Own K G H v t f) : decide (v = .non) = t.isN := by
  cases h with
  | d h => exact h.isN
  | lst _ _ => simp [T.isN]
  | tup _ _ => simp [T.isN]
  | dct _ _ => simp [T.isN]
  | obj _ _ => simp [T.isN]
  | tag _ => simp [T.isN]
theorem c_isN {q z} (ha : E X ρ a r) (hv : view ρ r = some t := by rfl) : CJ X ρ .Is a (.Constant .none q z) t.isN := cj_op op_isN ha e_non fun c τ σ H v u s Q k => by
  obtain rfl := s.vnon
  obtain ⟨G, f, _, o, _⟩ := s.pop.top hv
  exact ⟨rfl, by rw [o.isN]; exact k _ s.pop.pop⟩
theorem c_notN {q z} (ha : E X ρ a r) (hv : view ρ r = some t := by rfl) : CJ X ρ .IsNot a (.Constant .none q z) (!t.isN) := cj_op op_notN ha e_non fun c τ σ H v u s Q k => by
  obtain rfl := s.vnon
  obtain ⟨G, f, _, o, _⟩ := s.pop.top hv
  exact ⟨rfl, by rw [o.isN]; exact k _ s.pop.pop⟩

end
section
variable (X : Cx)
def twS (e : Expr) : TT := fun σ H Q => ∀ whole pins s, Inv X pins σ H s → wpAny (model X.prog X.w) X.A (isTrue e X.env whole) (TP X pins σ Q) X.xe s
def Tw (ρ : Rho) (e : Expr) (b : Bool) : Prop := ∀ c τ σ H, St X.K c ρ τ σ H → ∀ Q : Bool → Hp → Prop, (∀ H', St X.K c ρ τ σ H' → Q b H') → twS X e σ H Q
end
section
variable {X : Cx} {W : WX} {ρ : Rho} {Φ : Ph} {a b e : Expr} {es : List Expr} {r r1 r2 : R} {t t1 t2 : T} {ts : List T} {pos : Pos} {i j : Int} {nm : Str} {x y : D} {ds : List D} {op : CmpOp} {k l : Bool}
theorem pwS : PW X e (twS X e) := ⟨fun whole pins s σ H Q I h => h whole pins s I⟩
theorem tw_of {tt : TT} {σ : L2.St} {H : Hp} {Q : Bool → Hp → Prop} (h : PW X e tt) (q : tt σ H Q) : twS X e σ H Q := fun whole pins s I => h.run whole pins s σ H Q I q
theorem t_w (h : Tw X ρ e k) : Tt X ρ e k := fun c τ σ H s Q q => tt_of pwS.pt (h c τ σ H s Q q)
theorem w_and1 (h : Tt X ρ a k) : Tw X ρ (.BoolOp .And [a] pos) k := fun c τ σ H s Q q => tw_of (pw_and1 ptS) (h c τ σ H s Q q)
theorem w_or1 (h : Tt X ρ a k) : Tw X ρ (.BoolOp .Or [a] pos) k := fun c τ σ H s Q q => tw_of (pw_or1 ptS) (h c τ σ H s Q q)
theorem w_and (h : Tt X ρ a k) (h2 : k = true → Tw X ρ (.BoolOp .And (b :: es) pos) l) : Tw X ρ (.BoolOp .And (a :: b :: es) pos) (k && l) := fun c τ σ H s Q q => tw_of (pw_and ptS pwS) (h c τ σ H s _ fun H' s' => by
  cases k with
  | true => exact h2 rfl c τ σ H' s' Q q
  | false => exact q H' s')
theorem w_or (h : Tt X ρ a k) (h2 : k = false → Tw X ρ (.BoolOp .Or (b :: es) pos) l) : Tw X ρ (.BoolOp .Or (a :: b :: es) pos) (k || l) := fun c τ σ H s Q q => tw_of (pw_or ptS pwS) (h c τ σ H s _ fun H' s' => by
  cases k with
  | true => exact q H' s'
  | false => exact h2 rfl c τ σ H' s' Q q)
theorem t_not (h : Tt X ρ a k) : Tt X ρ (.UnaryOp .Not a pos) (!k) := fun c τ σ H s Q q => tt_of (pt_not ptS) (h c τ σ H s _ q)
theorem t_as (h : Tt X ρ a k) (e : k = l) : Tt X ρ a l := e ▸ h
theorem e_one {o} (h : E X ρ a r) : E X ρ (.BoolOp o [a] pos) r := fun c τ σ H s Q q => te_of (pe_one peS) (h c τ σ H s Q q)
theorem e_and (h : E X ρ a (.tm (.d (.bl k)))) (h2 : k = true → E X ρ (.BoolOp .And (b :: es) pos) (.tm (.d (.bl l)))) : E X ρ (.BoolOp .And (a :: b :: es) pos) (.tm (.d (.bl (k && l)))) := fun c τ σ H s Q q => te_of (pe_and peS peS) (h c τ σ H s _ fun v H' s' => by
  obtain rfl := s'.vbl
  refine ⟨k, rfl, ?_⟩
  cases k with
  | true => exact h2 rfl c τ σ H' s'.pop Q q
  | false => exact q _ H' s')
theorem e_or (h : E X ρ a (.tm (.d (.bl k)))) (h2 : k = false → E X ρ (.BoolOp .Or (b :: es) pos) (.tm (.d (.bl l)))) : E X ρ (.BoolOp .Or (a :: b :: es) pos) (.tm (.d (.bl (k || l)))) := fun c τ σ H s Q q => te_of (pe_or peS peS) (h c τ σ H s _ fun v H' s' => by
  obtain rfl := s'.vbl
  refine ⟨k, rfl, ?_⟩
  cases k with
  | true => exact q _ H' s'
  | false => exact h2 rfl c τ σ H' s'.pop Q q)
theorem e_not (h : E X ρ a (.tm (.d (.bl k)))) : E X ρ (.UnaryOp .Not a pos) (.tm (.d (.bl (!k)))) := fun c τ σ H s Q q => te_of (pe_not peS) (h c τ σ H s _ fun v H' s' => by
  obtain rfl := s'.vbl
  exact ⟨k, rfl, q _ _ (s'.pop.push fun _ => .bl _)⟩)

theorem ea_nil : EA X ρ [] [] := fun c τ σ H s Q q => ta_of pa_nil (q [] H (StA.nil s))
theorem ea_cons (h : E X ρ e (.tm t)) (h2 : EA X ρ es ts) (hs : starEach (e :: es) X.env = (false, eval e X.env) :: starEach es X.env := by rfl) : EA X ρ (e :: es) (t :: ts) := fun c τ σ H s Q q =>
  ta_of (pa_cons peS paS hs) (h c τ σ H s _ fun v H1 s1 => h2 c _ σ H1 s1 _ fun vs H2 s2 => q (v :: vs) H2 s2.cons)
theorem Owns.same {K : PySem.W.Frag} {G H : Hp} {p : Addr} {o : HO} {vs : List V} {ts : List T} {f : List Addr} (h : Owns K G H vs ts f) : vs.length = ts.length := h.len
theorem StA.len {K : PySem.W.Frag} {c : Cst} {vs : List V} {τ : List (V × R)} {σ : L2.St} {H : Hp} (s : StA K c ρ vs ts τ σ H) : vs.length = ts.length := let ⟨_, _, _, _, _, _, A, _⟩ := s; A.len
theorem e_lst (h : EA X ρ es ts) (hl : ts.length ≤ sizeLine := by first | decide | exact Nat.le_of_ble_eq_true rfl) : E X ρ (.List es pos) (.tm (.lst ts)) := fun c τ σ H s Q q => te_of (pe_lst paS) (h c τ σ H s _ fun vs H1 s1 =>
  ⟨by rw [s1.len]; exact hl, fun p hp => q _ _ (s1.new hp fun G fa _ w => ⟨fa, .refl _, .lst upd_same w⟩)⟩)
theorem e_tup {x1} (h : EA X ρ es ts) (hl : ts.length ≤ sizeLine := by first | decide | exact Nat.le_of_ble_eq_true rfl) : E X ρ (.Tuple es x1 pos) (.tm (.tup ts)) := fun c τ σ H s Q q => te_of (pe_tup paS) (h c τ σ H s _ fun vs H1 s1 =>
  ⟨by rw [s1.len]; exact hl, fun p hp => q _ _ (s1.new hp fun G fa _ w => ⟨fa, .refl _, .tup upd_same w⟩)⟩)
theorem e_dct : E X ρ (.Dict [] [] pos) (.tm (.dct [])) := fun c τ σ H s Q q => te_of pe_dnewT fun p hp => q _ _ (s.new hp fun G _ => .dct upd_same .nil)

theorem s_set (n : Nat) {nm : Str} {pos' : Pos} (he : E X ρ e (.tm t)) (h : Φ.nx (ρ.set n (some t))) (hρ : Nat.ble (n + 1) ρ.length = true := by rfl) (hi : X.N[n]? = some nm := by rfl) (hN : X.N.Nodup := by assumption) (hx : Loc X.env.scope nm := by first | exact Or.inl rfl | exact Or.inr rfl)
    (hs : swapsWith e (some (.Name nm pos')) pos.line X.env = pure false := by rfl) (hf : X.fn nm = true ∨ X.env.scope.names.lookup nm = some .local := by first | exact .inl rfl | exact .inr rfl | assumption) :
    S1 X W ρ (.Assign [.Name nm pos'] e pos) Φ := fun c τ σ H tm s D P =>
  ts_of (ps_set hN hi hx peS hs hf) (he c τ σ H s _ fun v H1 s1 => P.nx _ _ _ h (s1.store (Nat.le_of_ble_eq_true hρ) tm))
theorem s_ret (he : E X ρ e (.tm t)) (h : Φ.rt t ρ) : S1 X W ρ (.Return (some e) pos) Φ := fun c τ σ H tm s D P => ts_of (ps_ret peS) (he c τ σ H s _ fun v H1 s1 => P.rt _ _ _ _ _ h s1)
theorem s_pass (h : Φ.nx ρ) : S1 X W ρ (.Pass pos) Φ := fun c τ σ H tm s D P => ts_of ps_pass (P.nx _ _ _ h s)
theorem s_expr (he : E X ρ e r) (h : Φ.nx ρ) (hs : swapsWith e none pos.line X.env = pure false := by rfl) : S1 X W ρ (.Expr e pos) Φ := fun c τ σ H tm s D P => ts_of (ps_expr peS hs) (he c τ σ H s _ fun v H1 s1 => P.nx _ _ _ h s1.pop)
theorem s_if {c0 : Expr} {A B : List Stmt} (hc : Tt X ρ c0 k) (h1 : k = true → S X W ρ A Φ) (h2 : k = false → S X W ρ B Φ) : S1 X W ρ (.If c0 A B pos) Φ := fun c τ σ H tm s D P =>
  ts_of (ps_if ptS pbS pbS) (hc c τ σ H s _ fun H1 s1 => by
    cases k with
    | true => exact h1 rfl c τ σ H1 tm s1 D P
    | false => exact h2 rfl c τ σ H1 tm s1 D P)
end
end DL
namespace DL
open PySem PySem.Spec PyProof.Rows L2

mutual
def D.py : D → PyData
  | .non => .none
  | .bl b => .bool b
  | .int i => .int i
  | .str x => .str x
  | .scr ns => .list (ns.map .int)
  | .lst ds => .list (D.pys ds)
  | .tup ds => .tuple (D.pys ds)
  | .dct _ => .none
  | .obj _ _ => .none
  | .adr _ => .none
def D.pys : List D → List PyData
  | [] => []
  | d :: ds => d.py :: D.pys ds
end
theorem D.pys_map : ∀ ds : List D, D.pys ds = ds.map D.py
  | [] => rfl
  | d :: ds => by rw [D.pys, D.pys_map ds, List.map_cons]
/-- nested at most n deep, of ints, bools, None -/
def D.ok : Nat → D → Prop
  | _, .non => True
  | _, .bl _ => True
  | _, .int _ => True
  | _ + 1, .scr _ => True
  | n + 1, .lst ds => ∀ d ∈ ds, D.ok n d
  | n + 1, .tup ds => ∀ d ∈ ds, D.ok n d
  | _, _ => False
theorem lay_ints : ∀ ns : List Int, PyData.canLayAll0 (ns.map PyData.int) = true ∧ PyData.depthAll (ns.map PyData.int) = 0
  | [] => by simp [PyData.canLayAll0, PyData.depthAll]
  | n :: ns => by
    obtain ⟨h1, h2⟩ := lay_ints ns
    simp [PyData.canLayAll0, PyData.canLay0, PyData.depthAll, PyData.depth, h1, h2]
mutual
theorem D.ok_lay : ∀ (d : D) (n : Nat), d.ok n → d.py.canLay0 = true ∧ d.py.depth ≤ n
  | .non, n, h => by simp [D.py, PyData.canLay0, PyData.depth]
  | .bl _, n, h => by simp [D.py, PyData.canLay0, PyData.depth]
  | .int _, n, h => by simp [D.py, PyData.canLay0, PyData.depth]
  | .str _, n, h => by cases n <;> exact h.elim
  | .scr ns, 0, h => h.elim
  | .scr ns, n + 1, h => by
    obtain ⟨h1, h2⟩ := lay_ints ns
    simp [D.py, PyData.canLay0, PyData.depth, h1, h2]
  | .lst ds, 0, h => h.elim
  | .lst ds, n + 1, h => by
    obtain ⟨h1, h2⟩ := D.oks_lay ds n h
    refine ⟨by simpa [D.py, PyData.canLay0] using h1, ?_⟩
    simp only [D.py, PyData.depth]; omega
  | .tup ds, 0, h => h.elim
  | .tup ds, n + 1, h => by
    obtain ⟨h1, h2⟩ := D.oks_lay ds n h
    refine ⟨by simpa [D.py, PyData.canLay0] using h1, ?_⟩
    simp only [D.py, PyData.depth]; omega
  | .dct _, n, h => by cases n <;> exact h.elim
  | .obj _ _, n, h => by cases n <;> exact h.elim
  | .adr _, n, h => by cases n <;> exact h.elim
theorem D.oks_lay : ∀ (ds : List D) (n : Nat), (∀ d ∈ ds, d.ok n) → PyData.canLayAll0 (D.pys ds) = true ∧ PyData.depthAll (D.pys ds) ≤ n
  | [], n, _ => by simp [D.pys, PyData.canLayAll0, PyData.depthAll]
  | d :: ds, n, h => by
    obtain ⟨h1, h2⟩ := D.ok_lay d n (h d List.mem_cons_self)
    obtain ⟨h3, h4⟩ := D.oks_lay ds n fun e he => h e (List.mem_cons_of_mem _ he)
    refine ⟨by simp [D.pys, PyData.canLayAll0, h1, h3], ?_⟩
    simp only [D.pys, PyData.depthAll]; omega
end
theorem D.shaped {d : D} {n : Nat} (h : d.ok n) (hn : n ≤ 64) : SeqAt.shaped d.py = true := by
  obtain ⟨h1, h2⟩ := d.ok_lay n h
  show (d.py.canLay0 && decide (d.py.depth ≤ 64)) = true
  rw [h1, Bool.true_and, decide_eq_true_eq]
  omega
section
variable {K : PySem.W.Frag} {H : Hp}
theorem ints_py : ∀ ns : List Int, DpAll K H (ns.map V.int) (ns.map PyData.int)
  | [] => .nil
  | n :: ns => .cons (.int n) (ints_py ns)
mutual
theorem Dr.py : ∀ (d : D) (n : Nat) (v : V), d.ok n → Dr K H v d → Dp K H v d.py
  | .non, _, _, _, h => by cases h; exact .non
  | .bl _, _, _, _, h => by cases h; exact .bl _
  | .int _, _, _, _, h => by cases h; exact .int _
  | .str _, n, _, o, h => by cases n <;> exact o.elim
  | .scr ns, n, _, o, h => by cases h with | scr h => exact .lst h (ints_py ns)
  | .lst ds, 0, _, o, _ => o.elim
  | .lst ds, n + 1, _, o, h => by cases h with | lst h1 h2 => exact .lst (SqL.of h1) (Drs.py ds n _ o h2)
  | .tup ds, 0, _, o, _ => o.elim
  | .tup ds, n + 1, _, o, h => by cases h with | tup h1 h2 => exact .tup (SqT.of h1) (Drs.py ds n _ o h2)
  | .dct _, n, _, o, h => by cases n <;> exact o.elim
  | .obj _ _, n, _, o, h => by cases n <;> exact o.elim
  | .adr _, n, _, o, h => by cases n <;> exact o.elim
theorem Drs.py : ∀ (ds : List D) (n : Nat) (vs : List V), (∀ d ∈ ds, d.ok n) → Drs K H vs ds → DpAll K H vs (D.pys ds)
  | [], _, _, _, h => by cases h; exact .nil
  | d :: ds, n, _, o, h => by cases h with | cons h1 h2 => exact .cons (Dr.py d n _ (o d List.mem_cons_self) h1) (Drs.py ds n _ (fun e he => o e (List.mem_cons_of_mem _ he)) h2)
end
end

section
variable {K : PySem.W.Frag} {G H : Hp}
theorem Drs.atI {vs : List V} {ds : List D} {i : Int} {x : D} (h : Drs K G vs ds) (e : L2.atI ds i = some x) : ∃ u, L2.atI vs i = some u ∧ Dr K G u x := by
  unfold L2.atI at e ⊢
  rw [h.len]
  cases q : ixN ds.length i with
  | none => rw [q] at e; cases e
  | some j =>
    rw [q] at e
    exact h.get e
theorem Owns.atI {vs : List V} {ts : List T} {f : List Addr} {i : Int} {x : T} (h : Owns K G H vs ts f) (e : L2.atI ts i = some x) : ∃ j u g, ixN ts.length i = some j ∧ ts[j]? = some x ∧ L2.atI vs i = some u ∧ vs[j]? = some u ∧ Own K G H u x g ∧ g.Sublist f := by
  unfold L2.atI at e ⊢
  rw [h.len]
  cases q : ixN ts.length i with
  | none => rw [q] at e; cases e
  | some j =>
    rw [q] at e
    obtain ⟨v, l1, g, l2, a1, a2, a3, _⟩ := h.get e
    refine ⟨j, v, g, rfl, e, a1, a1, a3, ?_⟩
    rw [a2]
    exact (List.sublist_append_right _ _).trans (List.sublist_append_left _ _)
theorem Own.is_lst {v : V} {ts : List T} {f : List Addr} (h : Own K G H v (.lst ts) f) : ∃ a vs g, v = .ref a ∧ f = a :: g ∧ H a = some (.lst vs) ∧ Owns K G H vs ts g := by
  cases h with | lst h1 h2 => exact ⟨_, _, _, rfl, rfl, h1, h2⟩
theorem Own.is_tup {v : V} {ts : List T} {f : List Addr} (h : Own K G H v (.tup ts) f) : ∃ a vs g, v = .ref a ∧ f = a :: g ∧ H a = some (.tup vs) ∧ Owns K G H vs ts g := by
  cases h with | tup h1 h2 => exact ⟨_, _, _, rfl, rfl, h1, h2⟩
theorem Own.is_dct {v : V} {ts : List (List Key × T)} {f : List Addr} (h : Own K G H v (.dct ts) f) : ∃ a vs g, v = .ref a ∧ f = a :: g ∧ H a = some (.dT vs) ∧ OwnK K G H vs ts g := by
  cases h with | dct h1 h2 => exact ⟨_, _, _, rfl, rfl, h1, h2⟩
theorem Own.is_d {v : V} {x : D} {f : List Addr} (h : Own K G H v (.d x) f) : Dr K G v x ∧ f = [] := by
  cases h with | d h1 => exact ⟨h1, rfl⟩
theorem Dr.is_lst {v : V} {ds : List D} (h : Dr K G v (.lst ds)) : ∃ a vs, v = .ref a ∧ G a = some (.lst vs) ∧ Drs K G vs ds := by
  cases h with | lst h1 h2 => exact ⟨_, _, rfl, h1, h2⟩
theorem Dr.is_tup {v : V} {ds : List D} (h : Dr K G v (.tup ds)) : ∃ a vs, v = .ref a ∧ G a = some (.tup vs) ∧ Drs K G vs ds := by
  cases h with | tup h1 h2 => exact ⟨_, _, rfl, h1, h2⟩
theorem Dr.is_scr {v : V} {ns : List Int} (h : Dr K G v (.scr ns)) : ∃ a, v = .ref a ∧ SqL K G a (ns.map V.int) := by
  cases h with | scr h1 => exact ⟨_, rfl, h1⟩
theorem Dr.is_dct {v : V} {ds : List (List Key × D)} (h : Dr K G v (.dct ds)) : ∃ a vs, v = .ref a ∧ G a = some (.dT vs) ∧ DrK K G vs ds := by
  cases h with | dct h1 h2 => exact ⟨_, _, rfl, h1, h2⟩
theorem Dr.is_obj {v : V} {C : Addr} {ds : List (Str × D)} (h : Dr K G v (.obj C ds)) : ∃ a dx vs, v = .ref a ∧ G a = some (.ins C dx vs) ∧ DrF K G vs ds := by
  cases h with | obj h1 h2 => exact ⟨_, _, _, rfl, h1, h2⟩
end

section
variable {X : Cx} {W : WX} {ρ : Rho} {Φ : Ph} {a b e : Expr} {es : List Expr} {r r1 r2 : R} {t t1 t2 t' : T} {ts : List T} {pos : Pos} {i j : Int} {nm : Str} {x y : D} {ds : List D} {op : CmpOp} {k l : Bool} {n m : Nat} {p : List Nat}
theorem e_ixL (ha : E X ρ a (.tm (.d (.lst ds)))) (hb : E X ρ b (.tm (.d (.int i)))) (hx : atI ds i = some x) (hs : PlainIx b := by exact fun _ _ => rfl) : E X ρ (.Subscript a b pos) (.tm (.d x)) := fun c τ σ H s Q q =>
  te_of (pe_ix ix_list peS peS hs) (ha c τ σ H s _ fun v H1 s1 => hb c _ σ H1 s1 _ fun u H2 s2 => by
    obtain rfl := s2.vint
    obtain ⟨u, ⟨ar, vs, e1, e2, e3⟩, s3⟩ := s2.pop.derive (P := fun u => ∃ ar vs, v = .ref ar ∧ SqL X.K H2 ar vs ∧ atI vs i = some u) (y := x) fun G sb h => by
      obtain ⟨ar, vs, e1, e2, e3⟩ := h.is_lst
      obtain ⟨u, f1, f2⟩ := e3.atI hx
      exact ⟨u, ⟨ar, vs, e1, SqL.of (sb _ _ e2), f1⟩, f2⟩
    exact ⟨ar, vs, i, u, e1, rfl, e2, e3, q _ _ s3⟩)
theorem e_ixT (ha : E X ρ a (.tm (.d (.tup ds)))) (hb : E X ρ b (.tm (.d (.int i)))) (hx : atI ds i = some x) (hs : PlainIx b := by exact fun _ _ => rfl) : E X ρ (.Subscript a b pos) (.tm (.d x)) := fun c τ σ H s Q q =>
  te_of (pe_ix ix_tup peS peS hs) (ha c τ σ H s _ fun v H1 s1 => hb c _ σ H1 s1 _ fun u H2 s2 => by
    obtain rfl := s2.vint
    obtain ⟨u, ⟨ar, vs, e1, e2, e3⟩, s3⟩ := s2.pop.derive (P := fun u => ∃ ar vs, v = .ref ar ∧ SqT X.K H2 ar vs ∧ atI vs i = some u) (y := x) fun G sb h => by
      obtain ⟨ar, vs, e1, e2, e3⟩ := h.is_tup
      obtain ⟨u, f1, f2⟩ := e3.atI hx
      exact ⟨u, ⟨ar, vs, e1, SqT.of (sb _ _ e2), f1⟩, f2⟩
    exact ⟨ar, vs, i, u, e1, rfl, e2, e3, q _ _ s3⟩)
theorem e_ixS {ns : List Int} (ha : E X ρ a (.tm (.d (.scr ns)))) (hb : E X ρ b (.tm (.d (.int i)))) (hx : atI ns i = some j) (hs : PlainIx b := by exact fun _ _ => rfl) : E X ρ (.Subscript a b pos) (.tm (.d (.int j))) := fun c τ σ H s Q q =>
  te_of (pe_ix ix_list peS peS hs) (ha c τ σ H s _ fun v H1 s1 => hb c _ σ H1 s1 _ fun u H2 s2 => by
    obtain rfl := s2.vint
    obtain ⟨ar, e1, e2⟩ := (s2.pop.see (t := .d (.scr ns)) rfl).is_scr
    refine ⟨ar, _, i, .int j, e1, rfl, e2, ?_, q _ _ s2.pop.pop.int⟩
    unfold atI at hx ⊢
    rw [List.length_map]
    cases z : ixN ns.length i with
    | none => rw [z] at hx; cases hx
    | some m =>
      rw [z] at hx
      show (ns.map V.int)[m]? = some (V.int j)
      rw [List.getElem?_map, show ns[m]? = some j from hx]; rfl)
/-- .. of a place: data there -/
theorem e_ixPL (ha : E X ρ a (.pl n p)) (hb : E X ρ b (.tm (.d (.int i)))) (hv : view ρ (.pl n p) = some (.lst ts)) (hx : atI ts i = some (.d x)) (hs : PlainIx b := by exact fun _ _ => rfl) : E X ρ (.Subscript a b pos) (.tm (.d x)) := fun c τ σ H s Q q =>
  te_of (pe_ix ix_list peS peS hs) (ha c τ σ H s _ fun v H1 s1 => hb c _ σ H1 s1 _ fun u H2 s2 => by
    obtain rfl := s2.vint
    obtain ⟨u, ⟨ar, vs, e1, e2, e3⟩, s3⟩ := s2.pop.partD (P := fun u => ∃ ar vs, v = .ref ar ∧ SqL X.K H2 ar vs ∧ atI vs i = some u) (y := x) hv fun G g sb h => by
      obtain ⟨ar, vs, g', e1, _, e2, e3⟩ := h.is_lst
      obtain ⟨j, u, g2, _, _, f1, _, f2, _⟩ := e3.atI hx
      exact ⟨u, ⟨ar, vs, e1, SqL.of e2, f1⟩, f2.is_d.1⟩
    exact ⟨ar, vs, i, u, e1, rfl, e2, e3, q _ _ s3⟩)
theorem e_ixPT (ha : E X ρ a (.pl n p)) (hb : E X ρ b (.tm (.d (.int i)))) (hv : view ρ (.pl n p) = some (.tup ts)) (hx : atI ts i = some (.d x)) (hs : PlainIx b := by exact fun _ _ => rfl) : E X ρ (.Subscript a b pos) (.tm (.d x)) := fun c τ σ H s Q q =>
  te_of (pe_ix ix_tup peS peS hs) (ha c τ σ H s _ fun v H1 s1 => hb c _ σ H1 s1 _ fun u H2 s2 => by
    obtain rfl := s2.vint
    obtain ⟨u, ⟨ar, vs, e1, e2, e3⟩, s3⟩ := s2.pop.partD (P := fun u => ∃ ar vs, v = .ref ar ∧ SqT X.K H2 ar vs ∧ atI vs i = some u) (y := x) hv fun G g sb h => by
      obtain ⟨ar, vs, g', e1, _, e2, e3⟩ := h.is_tup
      obtain ⟨j, u, g2, _, _, f1, _, f2, _⟩ := e3.atI hx
      exact ⟨u, ⟨ar, vs, e1, SqT.of e2, f1⟩, f2.is_d.1⟩
    exact ⟨ar, vs, i, u, e1, rfl, e2, e3, q _ _ s3⟩)
/-- .. of a place: a place -/
theorem e_ixPLp (ha : E X ρ a (.pl n p)) (hb : E X ρ b (.tm (.d (.int i)))) (hv : view ρ (.pl n p) = some (.lst ts)) (hj : ixN ts.length i = some m) (hx : ts[m]? = some t') (hs : PlainIx b := by exact fun _ _ => rfl) : E X ρ (.Subscript a b pos) (.pl n (p ++ [m])) := fun c τ σ H s Q q =>
  te_of (pe_ix ix_list peS peS hs) (ha c τ σ H s _ fun v H1 s1 => hb c _ σ H1 s1 _ fun u H2 s2 => by
    obtain rfl := s2.vint
    have hx' : atI ts i = some t' := by unfold atI; rw [hj]; exact hx
    obtain ⟨u, ⟨ar, vs, e1, e2, e3⟩, s3⟩ := s2.pop.part (P := fun u => ∃ ar vs, v = .ref ar ∧ SqL X.K H2 ar vs ∧ atI vs i = some u) (q := [m]) (s' := t') hv (by show (ts[m]?).bind (T.at0 []) = some t'; rw [hx]; rfl) fun G g h => by
      obtain ⟨ar, vs, g', e1, _, e2, e3⟩ := h.is_lst
      obtain ⟨j, u, g2, z1, _, f1, f2, _, _⟩ := e3.atI hx'
      rw [hj] at z1
      cases z1
      refine ⟨u, ⟨ar, vs, e1, SqL.of e2, f1⟩, ?_⟩
      rw [e1]
      unfold atV
      rw [e2]
      show (vs[m]?).bind (atV H2 []) = some u
      rw [f2]; rfl
    exact ⟨ar, vs, i, u, e1, rfl, e2, e3, q _ _ s3⟩)
theorem e_ixPTp (ha : E X ρ a (.pl n p)) (hb : E X ρ b (.tm (.d (.int i)))) (hv : view ρ (.pl n p) = some (.tup ts)) (hj : ixN ts.length i = some m) (hx : ts[m]? = some t') (hs : PlainIx b := by exact fun _ _ => rfl) : E X ρ (.Subscript a b pos) (.pl n (p ++ [m])) := fun c τ σ H s Q q =>
  te_of (pe_ix ix_tup peS peS hs) (ha c τ σ H s _ fun v H1 s1 => hb c _ σ H1 s1 _ fun u H2 s2 => by
    obtain rfl := s2.vint
    have hx' : atI ts i = some t' := by unfold atI; rw [hj]; exact hx
    obtain ⟨u, ⟨ar, vs, e1, e2, e3⟩, s3⟩ := s2.pop.part (P := fun u => ∃ ar vs, v = .ref ar ∧ SqT X.K H2 ar vs ∧ atI vs i = some u) (q := [m]) (s' := t') hv (by show (ts[m]?).bind (T.at0 []) = some t'; rw [hx]; rfl) fun G g h => by
      obtain ⟨ar, vs, g', e1, _, e2, e3⟩ := h.is_tup
      obtain ⟨j, u, g2, z1, _, f1, f2, _, _⟩ := e3.atI hx'
      rw [hj] at z1
      cases z1
      refine ⟨u, ⟨ar, vs, e1, SqT.of e2, f1⟩, ?_⟩
      rw [e1]
      unfold atV
      rw [e2]
      show (vs[m]?).bind (atV H2 []) = some u
      rw [f2]; rfl
    exact ⟨ar, vs, i, u, e1, rfl, e2, e3, q _ _ s3⟩)
/-- .. of a tree that has just come -/
theorem e_ixML (ha : E X ρ a (.tm (.lst ts))) (hb : E X ρ b (.tm (.d (.int i)))) (hx : atI ts i = some t') (hs : PlainIx b := by exact fun _ _ => rfl) : E X ρ (.Subscript a b pos) (.tm t') := fun c τ σ H s Q q =>
  te_of (pe_ix ix_list peS peS hs) (ha c τ σ H s _ fun v H1 s1 => hb c _ σ H1 s1 _ fun u H2 s2 => by
    obtain rfl := s2.vint
    obtain ⟨u, ⟨ar, vs, e1, e2, e3⟩, s3⟩ := s2.pop.partT (P := fun u => ∃ ar vs, v = .ref ar ∧ SqL X.K H2 ar vs ∧ atI vs i = some u) (t' := t') fun G g h => by
      obtain ⟨ar, vs, g', e1, eg, e2, e3⟩ := h.is_lst
      obtain ⟨j, u, g2, _, _, f1, _, f2, f3⟩ := e3.atI hx
      exact ⟨u, g2, ⟨ar, vs, e1, SqL.of e2, f1⟩, f2, by rw [eg]; exact f3.cons _⟩
    exact ⟨ar, vs, i, u, e1, rfl, e2, e3, q _ _ s3⟩)
theorem e_ixMT (ha : E X ρ a (.tm (.tup ts))) (hb : E X ρ b (.tm (.d (.int i)))) (hx : atI ts i = some t') (hs : PlainIx b := by exact fun _ _ => rfl) : E X ρ (.Subscript a b pos) (.tm t') := fun c τ σ H s Q q =>
  te_of (pe_ix ix_tup peS peS hs) (ha c τ σ H s _ fun v H1 s1 => hb c _ σ H1 s1 _ fun u H2 s2 => by
    obtain rfl := s2.vint
    obtain ⟨u, ⟨ar, vs, e1, e2, e3⟩, s3⟩ := s2.pop.partT (P := fun u => ∃ ar vs, v = .ref ar ∧ SqT X.K H2 ar vs ∧ atI vs i = some u) (t' := t') fun G g h => by
      obtain ⟨ar, vs, g', e1, eg, e2, e3⟩ := h.is_tup
      obtain ⟨j, u, g2, _, _, f1, _, f2, f3⟩ := e3.atI hx
      exact ⟨u, g2, ⟨ar, vs, e1, SqT.of e2, f1⟩, f2, by rw [eg]; exact f3.cons _⟩
    exact ⟨ar, vs, i, u, e1, rfl, e2, e3, q _ _ s3⟩)
/-- a text's sign -/
theorem e_ixX {z : Str} {c0 : Nat} (ha : E X ρ a (.tm (.d (.str z)))) (hb : E X ρ b (.tm (.d (.int i)))) (hz : z.length ≤ sizeLine) (hx : atI z.cps.toList i = some c0) (hs : PlainIx b := by exact fun _ _ => rfl) : E X ρ (.Subscript a b pos) (.tm (.d (.str ⟨#[c0]⟩))) := fun c τ σ H s Q q =>
  te_of (pe_ix ix_str peS peS hs) (ha c τ σ H s _ fun v H1 s1 => hb c _ σ H1 s1 _ fun u H2 s2 => by
    obtain rfl := s2.vint
    obtain rfl := s2.pop.vstr
    exact ⟨z, i, c0, rfl, rfl, hz, hx, q _ _ (s2.pop.pop.push fun _ => .str _)⟩)

def kD : Key → D
  | .inl i => .int i
  | .inr x => .str x
/-- a tuple that is a key -/
def isKey (t : T) (ks : List Key) : Prop := t = .d (.tup (ks.map kD)) ∨ t = .tup (ks.map fun q => .d (kD q))
theorem Drs.keys {K : PySem.W.Frag} {G : Hp} : ∀ {ks : List Key} {vs : List V}, Drs K G vs (ks.map kD) → vs = ks.map kV
  | [], [], _ => rfl
  | .inl i :: ks, v :: vs, h => by
    cases h with | cons h1 h2 =>
    cases (show Dr K G v (.int i) from h1)
    rw [List.map_cons, ← Drs.keys h2]; rfl
  | .inr i :: ks, v :: vs, h => by
    cases h with | cons h1 h2 =>
    cases (show Dr K G v (.str i) from h1)
    rw [List.map_cons, ← Drs.keys h2]; rfl
  | [], _ :: _, h => by cases h
  | _ :: _, [], h => by cases h
theorem isKey.at {K : PySem.W.Frag} {G H : Hp} {ks : List Key} {v : V} {f : List Addr} (h : isKey t ks) (sb : Same G H) (o : Own K G H v t f) : ∃ b, v = .ref b ∧ H b = some (.tup (ks.map kV)) := by
  rcases h with rfl | rfl
  · obtain ⟨b, vs, e1, e2, e3⟩ := o.is_d.1.is_tup
    rw [e3.keys] at e2
    exact ⟨b, e1, sb _ _ e2⟩
  · obtain ⟨b, vs, g, e1, _, e2, e3⟩ := o.is_tup
    have q := e3.fz sb _ _ _ (.of (Same.refl _))
    have e : T.toDs (ks.map fun q => T.d (kD q)) = ks.map kD := by
      rw [T.toDs_map, List.map_map]; rfl
    rw [e] at q
    rw [q.keys] at e2
    exact ⟨b, e1, e2⟩
def dGet (kvs : List (List Key × D)) (ks : List Key) : Option D := (kvs.find? fun kv => decide (kv.1 = ks)).map (·.2)
theorem DrK.dget {K : PySem.W.Frag} {G : Hp} {vs : List (List Key × V)} {kvs : List (List Key × D)} {ks : List Key} (h : DrK K G vs kvs) : (dGet kvs ks = none ∧ valV vs ks = none) ∨ ∃ v d, valV vs ks = some v ∧ dGet kvs ks = some d ∧ Dr K G v d := by
  rcases h.val (k := ks) with ⟨h1, h2⟩ | ⟨v, d, h1, h2, h3⟩
  · exact .inl ⟨by unfold dGet; rw [h2]; rfl, h1⟩
  · exact .inr ⟨v, d, h1, by unfold dGet; rw [h2]; rfl, h3⟩
/-- d[k], d data -/
theorem e_dget {kvs : List (List Key × D)} {ks : List Key} (hu : X.A.units + 1 < cLine) (ha : E X ρ a (.tm (.d (.dct kvs)))) (hb : E X ρ b r) (hv : view ρ r = some t) (hk : isKey t ks) (hx : dGet kvs ks = some x) (hs : NoSl b := by exact fun _ _ => rfl) : E X ρ (.Subscript a b pos) (.tm (.d x)) := fun c τ σ H s Q q =>
  te_of (pe_dget hu peS peS hs) (ha c τ σ H s _ fun v H1 s1 => hb c _ σ H1 s1 _ fun u H2 s2 => by
    obtain ⟨G, f, sb, o, _⟩ := s2.top hv
    obtain ⟨bk, rfl, ek⟩ := hk.at sb o
    obtain ⟨u, ⟨ar, vs, e1, e2, e3⟩, s3⟩ := s2.pop.derive (P := fun u => ∃ ar vs, v = .ref ar ∧ H2 ar = some (.dT vs) ∧ valV vs ks = some u) (y := x) fun G sb h => by
      obtain ⟨ar, vs, e1, e2, e3⟩ := h.is_dct
      rcases e3.dget (ks := ks) with ⟨z, _⟩ | ⟨u, d, z1, z2, z3⟩
      · rw [hx] at z; cases z
      · rw [hx] at z2; cases z2
        exact ⟨u, ⟨ar, vs, e1, sb _ _ e2, z1⟩, z3⟩
    exact ⟨ar, u, e1, e3 ▸ DGet.t e2 ek, q _ _ s3⟩)
/-- k in d -/
theorem c_inD0 {kvs : List (List Key × D)} {ks : List Key} (hu : X.A.units + 1 < cLine) (ha : E X ρ a (.tm (.d (.dct kvs)))) (hb : E X ρ b r) (hv : view ρ r = some t) (hk : isKey t ks) : CJ X ρ .In b a (dGet kvs ks).isSome := cj_pc (pc_din hu peS peS) fun c τ σ H s Q q =>
  hb c τ σ H s _ fun u H1 s1 => ha c _ σ H1 s1 _ fun v H2 s2 => by
    obtain ⟨G, f, sb, o, _⟩ := s2.pop.top hv
    obtain ⟨bk, rfl, ek⟩ := hk.at sb o
    obtain ⟨ar, vs, e1, e2, e3⟩ := (s2.see (t := .d (.dct kvs)) rfl).is_dct
    refine ⟨ar, valV vs ks, e1, DGet.t e2 ek, ?_⟩
    have z : (valV vs ks).isSome = (dGet kvs ks).isSome := by
      rcases e3.dget (ks := ks) with ⟨z1, z2⟩ | ⟨u, d, z1, z2, _⟩
      · rw [z1, z2]; rfl
      · rw [z1, z2]; rfl
    rw [z]
    exact q _ s2.pop.pop
theorem c_notInD0 {kvs : List (List Key × D)} {ks : List Key} (hu : X.A.units + 1 < cLine) (ha : E X ρ a (.tm (.d (.dct kvs)))) (hb : E X ρ b r) (hv : view ρ r = some t) (hk : isKey t ks) : CJ X ρ .NotIn b a (!(dGet kvs ks).isSome) := cj_pc (pc_dnotin hu peS peS) fun c τ σ H s Q q =>
  hb c τ σ H s _ fun u H1 s1 => ha c _ σ H1 s1 _ fun v H2 s2 => by
    obtain ⟨G, f, sb, o, _⟩ := s2.pop.top hv
    obtain ⟨bk, rfl, ek⟩ := hk.at sb o
    obtain ⟨ar, vs, e1, e2, e3⟩ := (s2.see (t := .d (.dct kvs)) rfl).is_dct
    refine ⟨ar, valV vs ks, e1, DGet.t e2 ek, ?_⟩
    have z : (valV vs ks).isSome = (dGet kvs ks).isSome := by
      rcases e3.dget (ks := ks) with ⟨z1, z2⟩ | ⟨u, d, z1, z2, _⟩
      · rw [z1, z2]; rfl
      · rw [z1, z2]; rfl
    rw [z]
    exact q _ s2.pop.pop
/-- an owned dict seen as data -/
theorem T.toDk_map : ∀ ts : List (List Key × T), T.toDk ts = ts.map fun q => (q.1, q.2.toD)
  | [] => rfl
  | (k, t) :: ts => by rw [T.toDk, T.toDk_map ts, List.map_cons]
def tGet (kvs : List (List Key × T)) (ks : List Key) : Option T := (kvs.find? fun kv => decide (kv.1 = ks)).map (·.2)
theorem OwnK.tget {K : PySem.W.Frag} {G H : Hp} {ks : List Key} : ∀ {vs : List (List Key × V)} {kvs : List (List Key × T)} {f : List Addr}, OwnK K G H vs kvs f →
    (tGet kvs ks = none ∧ valV vs ks = none) ∨ ∃ v t g m, valV vs ks = some v ∧ tGet kvs ks = some t ∧ Own K G H v t g ∧ g.Sublist f ∧ kvs[m]? = some (ks, t) ∧ vs[m]? = some (ks, v) ∧ kvs.findIdx (fun kv => decide (kv.1 = ks)) = m
  | [], [], _, _ => .inl ⟨rfl, rfl⟩
  | (k0, v) :: vs, (k1, t) :: kvs, _, h => by
    cases h with | @cons _ _ _ _ _ f1 f2 h1 h2 =>
    by_cases e : k0 = ks
    · subst e
      exact .inr ⟨v, t, f1, 0, valV_pos (p := (k0, v)) rfl, by simp [tGet], h1, List.sublist_append_left _ _, rfl, rfl, by simp [List.findIdx_cons]⟩
    · have e1 : valV ((k0, v) :: vs) ks = valV vs ks := valV_neg (p := (k0, v)) e
      have e2 : tGet ((k0, t) :: kvs) ks = tGet kvs ks := by simp [tGet, List.find?_cons, e]
      rcases OwnK.tget (ks := ks) h2 with ⟨z1, z2⟩ | ⟨u, s, g, m, z1, z2, z3, z4, z5, z6, z7⟩
      · exact .inl ⟨by rw [e2]; exact z1, by rw [e1]; exact z2⟩
      · exact .inr ⟨u, s, g, m + 1, by rw [e1]; exact z1, by rw [e2]; exact z2, z3, z4.trans (List.sublist_append_right _ _), by simpa using z5, by simpa using z6, by simp [List.findIdx_cons, e, z7]⟩
  | [], _ :: _, _, h => by cases h
  | _ :: _, [], _, h => by cases h
/-- d[k], d a place: data there -/
theorem e_dgetP {kvs : List (List Key × T)} {ks : List Key} (hu : X.A.units + 1 < cLine) (ha : E X ρ a (.pl n p)) (hb : E X ρ b r) (ht : view ρ (.pl n p) = some (.dct kvs)) (hv : view ρ r = some t) (hk : isKey t ks) (hx : tGet kvs ks = some (.d x)) (hs : NoSl b := by exact fun _ _ => rfl) : E X ρ (.Subscript a b pos) (.tm (.d x)) := fun c τ σ H s Q q =>
  te_of (pe_dget hu peS peS hs) (ha c τ σ H s _ fun v H1 s1 => hb c _ σ H1 s1 _ fun u H2 s2 => by
    obtain ⟨G, f, sb, o, _⟩ := s2.top hv
    obtain ⟨bk, rfl, ek⟩ := hk.at sb o
    obtain ⟨u, ⟨ar, vs, e1, e2, e3⟩, s3⟩ := s2.pop.partD (P := fun u => ∃ ar vs, v = .ref ar ∧ H2 ar = some (.dT vs) ∧ valV vs ks = some u) (y := x) ht fun G g sb h => by
      obtain ⟨ar, vs, g', e1, _, e2, e3⟩ := h.is_dct
      rcases e3.tget (ks := ks) with ⟨z, _⟩ | ⟨u, d, g, m, z1, z2, z3, _⟩
      · rw [hx] at z; cases z
      · rw [hx] at z2; cases z2
        exact ⟨u, ⟨ar, vs, e1, e2, z1⟩, z3.is_d.1⟩
    exact ⟨ar, u, e1, e3 ▸ DGet.t e2 ek, q _ _ s3⟩)
/-- d[k], d a place: a place -/
theorem e_dgetPp {kvs : List (List Key × T)} {ks : List Key} (hu : X.A.units + 1 < cLine) (ha : E X ρ a (.pl n p)) (hb : E X ρ b r) (ht : view ρ (.pl n p) = some (.dct kvs)) (hv : view ρ r = some t) (hk : isKey t ks) (hx : tGet kvs ks = some t') (hm : kvs.findIdx (fun kv => decide (kv.1 = ks)) = m) (hs : NoSl b := by exact fun _ _ => rfl) : E X ρ (.Subscript a b pos) (.pl n (p ++ [m])) := fun c τ σ H s Q q =>
  te_of (pe_dget hu peS peS hs) (ha c τ σ H s _ fun v H1 s1 => hb c _ σ H1 s1 _ fun u H2 s2 => by
    obtain ⟨G, f, sb, o, _⟩ := s2.top hv
    obtain ⟨bk, rfl, ek⟩ := hk.at sb o
    have hkm : ∃ t0, kvs[m]? = some t0 ∧ t0.2 = t' := by
      unfold tGet at hx
      obtain ⟨q0, z1, z2⟩ := Option.map_eq_some_iff.mp hx
      refine ⟨q0, ?_, z2⟩
      rw [← hm]
      rw [List.find?_eq_some_iff_getElem] at z1
      obtain ⟨_, i0, hi0, z3, z4⟩ := z1
      have : kvs.findIdx (fun kv => decide (kv.1 = ks)) = i0 := by
        rw [List.findIdx_eq hi0]
        refine ⟨by rw [z3]; assumption, fun j hj => by simpa using z4 j hj⟩
      rw [this, List.getElem?_eq_getElem hi0, z3]
    obtain ⟨t0, hk1, hk2⟩ := hkm
    obtain ⟨u, ⟨ar, vs, e1, e2, e3⟩, s3⟩ := s2.pop.part (P := fun u => ∃ ar vs, v = .ref ar ∧ H2 ar = some (.dT vs) ∧ valV vs ks = some u) (q := [m]) (s' := t') ht (by show (kvs[m]?).bind (fun q => T.at0 [] q.2) = some t'; rw [hk1, ← hk2]; rfl) fun G g h => by
      obtain ⟨ar, vs, g', e1, _, e2, e3⟩ := h.is_dct
      rcases e3.tget (ks := ks) with ⟨z, _⟩ | ⟨u, d, g, m', z1, z2, z3, z4, z5, z6, z7⟩
      · rw [hx] at z; cases z
      · rw [hm] at z7
        subst z7
        refine ⟨u, ⟨ar, vs, e1, e2, z1⟩, ?_⟩
        rw [e1]
        unfold atV
        rw [e2]
        show (vs[m]?).bind (fun q => atV H2 [] q.2) = some u
        rw [z6]; rfl
    exact ⟨ar, u, e1, e3 ▸ DGet.t e2 ek, q _ _ s3⟩)
theorem c_inP {kvs : List (List Key × T)} {ks : List Key} (hu : X.A.units + 1 < cLine) (ha : E X ρ a (.pl n p)) (hb : E X ρ b r) (ht : view ρ (.pl n p) = some (.dct kvs)) (hv : view ρ r = some t) (hk : isKey t ks) : CJ X ρ .In b a (tGet kvs ks).isSome := cj_pc (pc_din hu peS peS) fun c τ σ H s Q q =>
  hb c τ σ H s _ fun u H1 s1 => ha c _ σ H1 s1 _ fun v H2 s2 => by
    obtain ⟨G, f, sb, o, _⟩ := s2.pop.top hv
    obtain ⟨bk, rfl, ek⟩ := hk.at sb o
    obtain ⟨G', f', sb', o', _⟩ := s2.top ht
    obtain ⟨ar, vs, g', e1, _, e2, e3⟩ := o'.is_dct
    refine ⟨ar, valV vs ks, e1, DGet.t e2 ek, ?_⟩
    have z : (valV vs ks).isSome = (tGet kvs ks).isSome := by
      rcases e3.tget (ks := ks) with ⟨z1, z2⟩ | ⟨u, d, _, _, z1, z2, _⟩
      · rw [z1, z2]; rfl
      · rw [z1, z2]; rfl
    rw [z]
    exact q _ s2.pop.pop
theorem c_notInP {kvs : List (List Key × T)} {ks : List Key} (hu : X.A.units + 1 < cLine) (ha : E X ρ a (.pl n p)) (hb : E X ρ b r) (ht : view ρ (.pl n p) = some (.dct kvs)) (hv : view ρ r = some t) (hk : isKey t ks) : CJ X ρ .NotIn b a (!(tGet kvs ks).isSome) := cj_pc (pc_dnotin hu peS peS) fun c τ σ H s Q q =>
  hb c τ σ H s _ fun u H1 s1 => ha c _ σ H1 s1 _ fun v H2 s2 => by
    obtain ⟨G, f, sb, o, _⟩ := s2.pop.top hv
    obtain ⟨bk, rfl, ek⟩ := hk.at sb o
    obtain ⟨G', f', sb', o', _⟩ := s2.top ht
    obtain ⟨ar, vs, g', e1, _, e2, e3⟩ := o'.is_dct
    refine ⟨ar, valV vs ks, e1, DGet.t e2 ek, ?_⟩
    have z : (valV vs ks).isSome = (tGet kvs ks).isSome := by
      rcases e3.tget (ks := ks) with ⟨z1, z2⟩ | ⟨u, d, _, _, z1, z2, _⟩
      · rw [z1, z2]; rfl
      · rw [z1, z2]; rfl
    rw [z]
    exact q _ s2.pop.pop

theorem c_eqD {n1 n2 : Nat} (hu : X.A.units + 64 < cLine) (ha : E X ρ a r1) (hb : E X ρ b r2) (v1 : view ρ r1 = some t1) (v2 : view ρ r2 = some t2) (o1 : t1.toD.ok n1) (o2 : t2.toD.ok n2) (h1 : n1 ≤ 64 := by decide) (h2 : n2 ≤ 64 := by decide) : CJ X ρ .Eq a b (PyData.eqv t1.toD.py t2.toD.py) :=
  cj_op (op_eqD hu) ha hb fun c τ σ H v u s Q q => ⟨_, _, (s.pop.see v1).py _ _ _ o1, (s.see v2).py _ _ _ o2, D.shaped o1 h1, D.shaped o2 h2, q _ s.pop.pop⟩
theorem c_neD {n1 n2 : Nat} (hu : X.A.units + 64 < cLine) (ha : E X ρ a r1) (hb : E X ρ b r2) (v1 : view ρ r1 = some t1) (v2 : view ρ r2 = some t2) (o1 : t1.toD.ok n1) (o2 : t2.toD.ok n2) (h1 : n1 ≤ 64 := by decide) (h2 : n2 ≤ 64 := by decide) : CJ X ρ .NotEq a b (!PyData.eqv t1.toD.py t2.toD.py) :=
  cj_op (op_neD hu) ha hb fun c τ σ H v u s Q q => ⟨_, _, (s.pop.see v1).py _ _ _ o1, (s.see v2).py _ _ _ o2, D.shaped o1 h1, D.shaped o2 h2, q _ s.pop.pop⟩
theorem c_in {n1 n2 : Nat} (hu : X.A.units + 65 < cLine) (ha : E X ρ a r1) (hb : E X ρ b r2) (v1 : view ρ r1 = some t1) (v2 : view ρ r2 = some t2) (e2 : t2.toD = .lst ds) (o1 : t1.toD.ok n1) (o2 : (D.lst ds).ok n2) (h1 : n1 ≤ 64 := by decide) (h2 : n2 ≤ 64 := by decide) : CJ X ρ .In a b (ds.any fun z => PyData.eqv z.py t1.toD.py) :=
  cj_op (op_inD hu) ha hb fun c τ σ H v u s Q q => by
    have z := (s.see v2)
    rw [e2] at z
    have o := D.shaped o2 h2
    refine ⟨_, D.pys ds, (s.pop.see v1).py _ _ _ o1, z.py _ _ _ o2, D.shaped o1 h1, o, ?_⟩
    have e : ((D.pys ds).any fun z => PyData.eqv z t1.toD.py) = (ds.any fun z => PyData.eqv z.py t1.toD.py) := by rw [D.pys_map, List.any_map]; rfl
    rw [e]
    exact q _ s.pop.pop
theorem c_notIn {n1 n2 : Nat} (hu : X.A.units + 65 < cLine) (ha : E X ρ a r1) (hb : E X ρ b r2) (v1 : view ρ r1 = some t1) (v2 : view ρ r2 = some t2) (e2 : t2.toD = .lst ds) (o1 : t1.toD.ok n1) (o2 : (D.lst ds).ok n2) (h1 : n1 ≤ 64 := by decide) (h2 : n2 ≤ 64 := by decide) : CJ X ρ .NotIn a b (!ds.any fun z => PyData.eqv z.py t1.toD.py) :=
  cj_op (op_notInD hu) ha hb fun c τ σ H v u s Q q => by
    have z := (s.see v2)
    rw [e2] at z
    have o := D.shaped o2 h2
    refine ⟨_, D.pys ds, (s.pop.see v1).py _ _ _ o1, z.py _ _ _ o2, D.shaped o1 h1, o, ?_⟩
    have e : ((D.pys ds).any fun z => PyData.eqv z t1.toD.py) = (ds.any fun z => PyData.eqv z.py t1.toD.py) := by rw [D.pys_map, List.any_map]; rfl
    rw [e]
    exact q _ s.pop.pop
end
end DL
namespace DL
open PySem PySem.Spec PyProof.Rows L2

section
variable {K : PySem.W.Frag} {c : Cst} {ρ : Rho} {τ : List (V × R)} {σ : L2.St} {H : Hp} {n : Nat} {p : List Nat}
theorem On.upd {l : List Addr} {a : Addr} {o : HO} (h : a ∉ l) : On l H (upd H a o) := fun b hb u e => by
  have hb' : b ≠ a := fun z => h (by rw [← z]; exact hb)
  rw [upd_ne hb']; exact e
theorem view_pl {t s : T} (et : ρ[n]? = some (some t)) (e : T.at p t = some s) : view ρ (.pl n p) = some s := by
  show (match ρ[n]? with | some (some t) => T.at p t | _ => none) = some s
  rw [et]; exact e
theorem StA.mut {v : V} {us : List V} {ts : List T} {t s s' : T} {a : Addr} {o' : HO} (h : StA K c ρ us ts ((v, .pl n p) :: τ) σ H) (tm : TmOnly τ) (et : ρ[n]? = some (some t)) (e : T.at p t = some s)
    (f : ∀ G g fa, Same G H → Own K G H v s g → Owns K G H us ts fa → (g ++ fa).Nodup → (∀ b ∈ g ++ fa, G b = none) → ∃ g' g2, a ∈ g ∧ g'.Perm g2 ∧ g2.Sublist (g ++ fa) ∧ Own K G (upd H a o') v s' g') :
    St K c (ρ.set n (some (T.put p t s'))) τ σ (upd H a o') := by
  obtain ⟨G, fs, fa, ft0, C, L, A, M⟩ := h
  cases M with
  | @pl _ _ _ _ u0 t1 s1 ft a1 a2 a3 a4 M =>
  rw [et] at a2
  cases a2
  rw [e] at a3
  cases a3
  obtain ⟨v0, l1, f0, l2, b1, b2, b3, b4⟩ := L.get et
  rw [a1] at b1
  cases b1
  obtain ⟨w0, m1, g, m2, c1, c2, c3, c4⟩ := b3.focus e
  rw [a4] at c2
  cases c2
  subst c1 b2
  -- the parts, g in front
  have P1 : ((l1 ++ (m1 ++ g ++ m2) ++ l2) ++ (fa ++ ft0)).Perm ((g ++ fa) ++ ((l1 ++ l2) ++ (m1 ++ m2) ++ ft0)) := by
    rw [List.perm_iff_count]
    intro z
    simp only [List.count_append]
    omega
  have C1 := C.perm P1
  obtain ⟨n1, n2, n3⟩ := List.nodup_append.mp C1.nd
  obtain ⟨g', g2, ha, hp, hs, w⟩ := f G g fa C.sub c3 A n1 fun b hb => (C1.own b (List.mem_append_left _ hb)).1
  have ha' : a ∈ g ++ fa := List.mem_append_left _ ha
  have out : ∀ b, b ∈ (l1 ++ l2) ++ (m1 ++ m2) ++ ft0 → b ≠ a := fun b hb z => n3 a ha' b hb z.symm
  have na : ∀ l : List Addr, (∀ b ∈ l, b ∈ (l1 ++ l2) ++ (m1 ++ m2) ++ ft0) → a ∉ l := fun l hl m => out a (hl a m) rfl
  have i1 := na (m1 ++ m2) (fun b hb => by simp only [List.mem_append] at hb ⊢; rcases hb with z | z <;> simp [z])
  have i2 := na (l1 ++ l2) (fun b hb => by simp only [List.mem_append] at hb ⊢; rcases hb with z | z <;> simp [z])
  have i3 := na ft0 (fun b hb => List.mem_append_right _ hb)
  have w1 := c4 G (upd H a o') s' g' (Same.refl _) (On.upd i1) w
  have w2 := b4 G (upd H a o') u0 _ _ (Same.refl _) (On.upd i2) w1
  have hσ : σ.set n (some u0) = σ := by
    obtain ⟨hk, ek⟩ := List.getElem?_eq_some_iff.mp a1
    rw [← ek, List.set_getElem_self]
  rw [hσ] at w2
  have Ga : G a = none := (C1.own a (List.mem_append_left _ ha')).1
  have P2 : ((l1 ++ (m1 ++ g' ++ m2) ++ l2) ++ ft0).Perm (g' ++ ((l1 ++ l2) ++ (m1 ++ m2) ++ ft0)) := by
    rw [List.perm_iff_count]
    intro z
    simp only [List.count_append]
    omega
  have C2 : Core c G H (g' ++ ((l1 ++ l2) ++ (m1 ++ m2) ++ ft0)) := (C1.sl (hs.append_right _)).perm (hp.symm.append_right _)
  have C3 := C2.perm P2.symm
  refine ⟨G, _, ft0, ⟨fun b o q => ?_, C3.base, C3.newG, fun b o q nf => ?_, fun b o q => ?_, C3.nd, C3.own⟩, w2, M.move (Same.refl _) tm (On.upd i3)⟩
  · have hb : b ≠ a := fun z => by rw [z, Ga] at q; cases q
    rw [upd_ne hb]; exact C.sub b o q
  · have hb : b ≠ a := fun z => by
      subst z
      rcases (C1.own b (List.mem_append_left _ ha')).2 with y | y
      · exact nf y
      · rw [y] at q; cases q
    rw [upd_ne hb]; exact C.prot b o q nf
  · by_cases hb : b = a
    · subst hb; exact ⟨_, upd_same⟩
    · rw [upd_ne hb]; exact C.there b o q
end

section
variable {X : Cx} {W : WX} {ρ : Rho} {Φ : Ph} {a b e o e1 e2 : Expr} {es : List Expr} {r r1 r2 : R} {t t1 t2 t' t0 s0 : T} {ts xs ys : List T} {pos apos cpos spos : Pos} {i j : Int} {nm : Str} {x y : D} {ds : List D} {op : CmpOp} {k l : Bool} {n m : Nat} {p : List Nat}

/-- a tree that is a list: its items' trees; for a list that is data too -/
def T.items : T → Option (List T)
  | .lst ts => some ts
  | .d (.lst ds) => some (ds.map T.d)
  | _ => none
theorem Own.items {K : PySem.W.Frag} {G H : Hp} {v : V} {f : List Addr} (h : Own K G H v t f) (sb : Same G H) (e : t.items = some ts) : ∃ a vs g, v = .ref a ∧ H a = some (.lst vs) ∧ Owns K G H vs ts g ∧ g.Sublist f ∧ vs.length = ts.length := by
  cases t with
  | lst us =>
    have e' : us = ts := by simpa [T.items] using e
    subst e'
    obtain ⟨ar, vs, g, e1, eg, e2, e3⟩ := h.is_lst
    exact ⟨ar, vs, g, e1, e2, e3, by rw [eg]; exact List.sublist_cons_self _ _, e3.len⟩
  | d x =>
    cases x with
    | lst ds =>
      have e' : ds.map T.d = ts := by simpa [T.items] using e
      subst e'
      obtain ⟨q, hf⟩ := h.is_d
      obtain ⟨ar, vs, e1, e2, e3⟩ := q.is_lst
      exact ⟨ar, vs, [], e1, sb _ _ e2, Owns.of_ds e3, by rw [hf]; exact .slnil, by rw [List.length_map, e3.len]⟩
    | _ => cases e
  | tup us => cases e
  | dct us => cases e
  | obj _ _ => cases e
  | tag _ _ => cases e

theorem s_append0 (ho : E X ρ o (.pl n p)) (he : E X ρ e (.tm t)) (et : ρ[n]? = some (some t0)) (ep : T.at p t0 = some (.lst xs)) (hl : xs.length < sizeLine) (h : Φ.nx (ρ.set n (some (T.put p t0 (.lst (xs ++ [t]))))))
    (hbase : attributeBase o "append" X.env (eval o X.env) = eval o X.env := by rfl)
    (hfew : ((backTo cpos (starEach [e] X.env)).all (fun x => !x.1) && (backToKw cpos (keywordEach [] X.env)).all (fun x => x.1.isSome)
      && decide ([e].length + ([] : List Keyword).length + (if ([] : List Keyword).isEmpty then 0 else 1) < 30)) = true := by rfl)
    (hline : (apos.endLine == cpos.line) = true := by rfl) (hs : starEach [e] X.env = (false, eval e X.env) :: starEach [] X.env := by rfl) (hplain : (backTo cpos (starEach [] X.env)).any (·.1) = false := by rfl)
    (hsw : swapsWith (.Call (.Attribute o "append" apos) [e] [] cpos) none pos.line X.env = pure false := by rfl) :
    S1 X W ρ (.Expr (.Call (.Attribute o "append" apos) [e] [] cpos) pos) Φ := fun c τ σ H tm s D P =>
  ts_of (ps_expr (pe_bm PySem.F.plainAttrs_list PySem.F.slot_list_append PySem.F.type_list_append mt_append peS (pa_cons peS pa_nil hs) hbase hfew hline hs hplain) hsw)
    (ho c τ σ H s _ fun v H1 s1 => by
      have hv : view ρ (.pl n p) = some (.lst xs) := view_pl et ep
      obtain ⟨G, f, sb, w, _⟩ := s1.top hv
      obtain ⟨ar, vs, g, e1, _, e2, e3⟩ := w.is_lst
      refine ⟨by rw [e1]; exact .inl ⟨rfl, _, SqL.of e2⟩, he c _ σ H1 s1 _ fun u H2 s2 => ?_⟩
      obtain ⟨G', f', sb', w', _⟩ := s2.pop.top hv
      obtain ⟨ar', vs', g', e1', _, e2', e3'⟩ := w'.is_lst
      refine ⟨ar', vs', u, e1', rfl, e2', by rw [e3'.len]; exact hl, P.nx _ _ _ h ?_⟩
      refine (StA.one s2).mut tm et ep fun G g fa sb w A nd _ => ?_
      obtain ⟨a3, v3, g3, q1, q2, q3, q4⟩ := w.is_lst
      rw [e1'] at q1
      cases q1
      rw [e2'] at q3
      cases q3
      subst q2
      have na : ar' ∉ g3 ++ fa := (List.nodup_cons.mp nd).1
      refine ⟨ar' :: (g3 ++ fa), ar' :: (g3 ++ fa), List.mem_cons_self, .refl _, .refl _, ?_⟩
      rw [e1']
      exact .lst upd_same ((q4.append A).keep (Same.refl _) _ _ _ (On.upd na)))
/-- x.append(e), x a name -/
theorem s_append (n : Nat) (ho : E X ρ o (.pl n [])) (he : E X ρ e (.tm t)) (et : ρ[n]? = some (some (.lst xs)) := by rfl) (hl : xs.length < sizeLine) (h : Φ.nx (ρ.set n (some (.lst (xs ++ [t])))))
    (hbase : attributeBase o "append" X.env (eval o X.env) = eval o X.env := by rfl)
    (hfew : ((backTo cpos (starEach [e] X.env)).all (fun x => !x.1) && (backToKw cpos (keywordEach [] X.env)).all (fun x => x.1.isSome)
      && decide ([e].length + ([] : List Keyword).length + (if ([] : List Keyword).isEmpty then 0 else 1) < 30)) = true := by rfl)
    (hline : (apos.endLine == cpos.line) = true := by rfl) (hs : starEach [e] X.env = (false, eval e X.env) :: starEach [] X.env := by rfl) (hplain : (backTo cpos (starEach [] X.env)).any (·.1) = false := by rfl)
    (hsw : swapsWith (.Call (.Attribute o "append" apos) [e] [] cpos) none pos.line X.env = pure false := by rfl) :
    S1 X W ρ (.Expr (.Call (.Attribute o "append" apos) [e] [] cpos) pos) Φ := s_append0 (p := []) ho he et rfl hl h hbase hfew hline hs hplain hsw
/-- x.extend(e), e's items all data; x a name -/
theorem s_extend (n : Nat) (ho : E X ρ o (.pl n [])) (he : E X ρ e (.tm t)) (ht : t.items = some ys) (et : ρ[n]? = some (some (.lst xs)) := by rfl) (hl : xs.length + ys.length ≤ sizeLine) (h : Φ.nx (ρ.set n (some (.lst (xs ++ ys)))))
    (hbase : attributeBase o "extend" X.env (eval o X.env) = eval o X.env := by rfl)
    (hfew : ((backTo cpos (starEach [e] X.env)).all (fun x => !x.1) && (backToKw cpos (keywordEach [] X.env)).all (fun x => x.1.isSome)
      && decide ([e].length + ([] : List Keyword).length + (if ([] : List Keyword).isEmpty then 0 else 1) < 30)) = true := by rfl)
    (hline : (apos.endLine == cpos.line) = true := by rfl) (hs : starEach [e] X.env = (false, eval e X.env) :: starEach [] X.env := by rfl) (hplain : (backTo cpos (starEach [] X.env)).any (·.1) = false := by rfl)
    (hsw : swapsWith (.Call (.Attribute o "extend" apos) [e] [] cpos) none pos.line X.env = pure false := by rfl) :
    S1 X W ρ (.Expr (.Call (.Attribute o "extend" apos) [e] [] cpos) pos) Φ := fun c τ σ H tm s D P =>
  ts_of (ps_expr (pe_bm PySem.F.plainAttrs_list PySem.F.slot_list_extend PySem.F.type_list_extend mt_extend peS (pa_cons peS pa_nil hs) hbase hfew hline hs hplain) hsw)
    (ho c τ σ H s _ fun v H1 s1 => by
      have hv : view ρ (.pl n []) = some (.lst xs) := view_pl et rfl
      obtain ⟨G, f, sb, w, _⟩ := s1.top hv
      obtain ⟨ar, vs, g, e1, _, e2, e3⟩ := w.is_lst
      refine ⟨by rw [e1]; exact .inl ⟨rfl, _, SqL.of e2⟩, he c _ σ H1 s1 _ fun u H2 s2 => ?_⟩
      obtain ⟨G', f', sb', w', _⟩ := s2.pop.top hv
      obtain ⟨ar', vs', g', e1', _, e2', e3'⟩ := w'.is_lst
      obtain ⟨G1, f1, sb1, w1, _⟩ := s2.top (t := t) rfl
      obtain ⟨ay, vy, gy, y1, y2, y3, _, y5⟩ := w1.items sb1 ht
      subst y1
      refine ⟨ar', ay, vs', vy, e1', rfl, e2', y2, by rw [e3'.len, y5]; exact hl, P.nx _ _ _ h ?_⟩
      refine (StA.one s2).mut tm et rfl fun G g fa sb w A nd nG => ?_
      obtain ⟨a3, v3, g3, q1, q2, q3, q4⟩ := w.is_lst
      rw [e1'] at q1
      cases q1
      rw [e2'] at q3
      cases q3
      subst q2
      cases A with | @cons _ _ _ _ f1 f2 A1 A2 =>
      cases A2
      rw [List.append_nil] at nd nG ⊢
      obtain ⟨a4, v4, g4, z1, z2, z3, z4, _⟩ := A1.items sb ht
      cases z1
      rw [y2] at z2
      cases z2
      have na : ar' ∉ g3 ++ f1 := (List.nodup_cons.mp nd).1
      refine ⟨ar' :: (g3 ++ g4), ar' :: (g3 ++ g4), List.mem_cons_self, .refl _, (z4.append_left g3).cons₂ _, ?_⟩
      rw [e1']
      refine .lst upd_same ((q4.append z3).keep (Same.refl _) _ _ _ (On.upd fun m => na ?_))
      rcases List.mem_append.mp m with m | m
      · exact List.mem_append_left _ m
      · exact List.mem_append_right _ (z4.subset m))
/-- o[i] = e, o a list at a place -/
theorem s_setitem0 (ho : E X ρ o (.pl n p)) (hi : E X ρ b (.tm (.d (.int i)))) (he : E X ρ e (.tm t)) (et : ρ[n]? = some (some t0)) (ep : T.at p t0 = some (.lst xs)) (hj : ixN xs.length i = some m) (h : Φ.nx (ρ.set n (some (T.put p t0 (.lst (xs.set m t))))))
    (ha : ∀ v, assign (.Subscript o b spos) X.env v = (do
      let ov ← holding [v] (eval o X.env)
      let iv ← holding [v, ov] (eval b X.env)
      standAt spos
      holding [v, ov, iv] (setItem ov iv v)
      release [v, ov, iv] []) := by intro _; rfl)
    (hs : swapsWithSole [.Subscript o b spos] e pos.line X.env = pure false := by rfl) (hw : swappedStores [.Subscript o b spos] e X.env = pure none := by rfl)
    (h1 : (assignEach [.Subscript o b spos] X.env).map (·.2) = [assign (.Subscript o b spos) X.env] := by rfl) :
    S1 X W ρ (.Assign [.Subscript o b spos] e pos) Φ := fun c τ σ H tm s D P =>
  ts_of (ps_asg peS (pg_sub peS peS set_list ha) hs hw h1) (he c τ σ H s _ fun u H1 s1 => ho c _ σ H1 s1 _ fun v H2 s2 => hi c _ σ H2 s2 _ fun w H3 s3 => by
    obtain rfl := s3.vint
    have hv : view ρ (.pl n p) = some (.lst xs) := view_pl et ep
    obtain ⟨G, f, sb, w, _⟩ := s3.pop.top hv
    obtain ⟨ar, vs, g, e1, _, e2, e3⟩ := w.is_lst
    refine ⟨ar, vs, i, m, e1, rfl, e2, by rw [e3.len]; exact hj, P.nx _ _ _ h ?_⟩
    -- the value's tree below the place: exchanged
    have s4 : StA X.K c ρ [u] [t] ((v, .pl n p) :: τ) σ H3 := by
      obtain ⟨G, fs, ft, C, L, M⟩ := s3.pop
      cases M with
      | pl a1 a2 a3 a4 M =>
        cases M with
        | tm M1 M2 =>
          rename_i f1 f2
          exact ⟨G, fs, f1 ++ [], f2, by simpa using C, L, .cons M1 .nil, .pl a1 a2 a3 a4 M2⟩
    refine s4.mut tm et ep fun G g fa sb w A nd _ => ?_
    obtain ⟨a3, v3, g3, q1, q2, q3, q4⟩ := w.is_lst
    rw [e1] at q1
    cases q1
    rw [e2] at q3
    cases q3
    subst q2
    cases A with | @cons _ _ _ _ f1 f2 A1 A2 =>
    cases A2
    rw [List.append_nil] at nd ⊢
    have hm : m < xs.length := (ixN_seq hj).2.1
    obtain ⟨v5, l1, f5, l2, z1, z2, z3, z4⟩ := q4.get (List.getElem?_eq_getElem hm)
    have na : ar ∉ g3 ++ f1 := (List.nodup_cons.mp nd).1
    have n1 : ar ∉ l1 ++ l2 := fun z => na (List.mem_append_left _ (by rw [z2]; rcases List.mem_append.mp z with z | z <;> simp [z]))
    have n2 : ar ∉ f1 := fun z => na (List.mem_append_right _ z)
    refine ⟨ar :: (l1 ++ f1 ++ l2), ar :: (l1 ++ l2 ++ f1), List.mem_cons_self, ?_, ?_, ?_⟩
    · refine List.Perm.cons _ ?_
      rw [List.append_assoc, List.append_assoc]
      exact List.Perm.append_left l1 List.perm_append_comm
    · refine List.Sublist.cons₂ _ (List.Sublist.append_right ?_ f1)
      rw [z2]
      exact (List.sublist_append_left l1 f5).append_right l2
    · rw [e1]
      exact .lst upd_same (z4 G _ u t f1 (Same.refl _) (On.upd n1) (A1.keep (Same.refl _) _ _ _ (On.upd n2))))
/-- a store into a dict -/
def tPut (kvs : List (List Key × T)) (ks : List Key) (t : T) : List (List Key × T) :=
  if (kvs.any fun kv => decide (kv.1 = ks)) = true then kvs.map (fun kv => if kv.1 = ks then (kv.1, t) else kv) else kvs ++ [(ks, t)]
theorem OwnK.len {K : PySem.W.Frag} {G H : Hp} : ∀ {vs : List (List Key × V)} {kvs : List (List Key × T)} {f : List Addr}, OwnK K G H vs kvs f → vs.length = kvs.length
  | [], [], _, _ => rfl
  | _ :: vs, _ :: ts, _, h => by cases h with | cons h1 h2 => simp only [List.length_cons, OwnK.len h2]
  | [], _ :: _, _, h => by cases h
  | _ :: _, [], _, h => by cases h
theorem OwnK.anyk {K : PySem.W.Frag} {G H : Hp} {ks : List Key} : ∀ {vs : List (List Key × V)} {kvs : List (List Key × T)} {f : List Addr}, OwnK K G H vs kvs f → (vs.any fun kv => decide (kv.1 = ks)) = (kvs.any fun kv => decide (kv.1 = ks))
  | [], [], _, _ => rfl
  | _ :: vs, _ :: ts, _, h => by cases h with | cons h1 h2 => simp only [List.any_cons, OwnK.anyk h2]
  | [], _ :: _, _, h => by cases h
  | _ :: _, [], _, h => by cases h
theorem OwnK.snoc {K : PySem.W.Frag} {G H : Hp} {ks : List Key} {u : V} {f1 : List Addr} (w : Own K G H u t f1) : ∀ {vs : List (List Key × V)} {kvs : List (List Key × T)} {f : List Addr}, OwnK K G H vs kvs f → OwnK K G H (vs ++ [(ks, u)]) (kvs ++ [(ks, t)]) (f ++ f1)
  | [], [], _, h => by
    cases h
    have := OwnK.cons (k := ks) w .nil
    simpa using this
  | (k0, v) :: vs, (k1, s) :: kvs, _, h => by
    cases h with | @cons _ _ _ _ _ g1 g2 h1 h2 =>
    rw [List.append_assoc]
    exact .cons h1 (OwnK.snoc w h2)
  | [], _ :: _, _, h => by cases h
  | _ :: _, [], _, h => by cases h
/-- keys told once -/
theorem OwnK.noRepl {K : PySem.W.Frag} {G H : Hp} {ks : List Key} : ∀ {kvs : List (List Key × T)}, ks ∉ kvs.map (·.1) → kvs.map (fun kv => if kv.1 = ks then (kv.1, t) else kv) = kvs
  | [], _ => rfl
  | q :: kvs, h => by
    rw [List.map_cons, List.mem_cons, not_or] at h
    rw [List.map_cons, if_neg (fun z => h.1 z.symm), OwnK.noRepl (K := K) (G := G) (H := H) h.2]
theorem noReplV {ks : List Key} {u : V} : ∀ {kvs : List (List Key × V)}, ks ∉ kvs.map (·.1) → kvs.map (fun kv => if kv.1 = ks then (kv.1, u) else kv) = kvs
  | [], _ => rfl
  | q :: kvs, h => by
    rw [List.map_cons, List.mem_cons, not_or] at h
    rw [List.map_cons, if_neg (fun z => h.1 z.symm), noReplV h.2]
theorem OwnK.keys {K : PySem.W.Frag} {G H : Hp} : ∀ {vs : List (List Key × V)} {kvs : List (List Key × T)} {f : List Addr}, OwnK K G H vs kvs f → vs.map (·.1) = kvs.map (·.1)
  | [], [], _, _ => rfl
  | _ :: vs, _ :: ts, _, h => by cases h with | cons h1 h2 => simp only [List.map_cons, OwnK.keys h2]
  | [], _ :: _, _, h => by cases h
  | _ :: _, [], _, h => by cases h
theorem OwnK.repl {K : PySem.W.Frag} {G H : Hp} {ks : List Key} {u : V} {f1 : List Addr} (w : Own K G H u t f1) : ∀ {vs : List (List Key × V)} {kvs : List (List Key × T)} {f : List Addr}, OwnK K G H vs kvs f → (kvs.map (·.1)).Nodup → ks ∈ kvs.map (·.1) →
    ∃ l1 l2, (l1 ++ l2).Sublist f ∧ OwnK K G H (vs.map fun kv => if kv.1 = ks then (kv.1, u) else kv) (kvs.map fun kv => if kv.1 = ks then (kv.1, t) else kv) (l1 ++ f1 ++ l2)
  | [], [], _, h, _, hm => by simp at hm
  | (k0, v) :: vs, (k1, s) :: kvs, _, h, nd, hm => by
    cases h with | @cons _ _ _ _ _ g1 g2 h1 h2 =>
    rw [List.map_cons, List.nodup_cons] at nd
    rw [List.map_cons, List.mem_cons] at hm
    by_cases e : k0 = ks
    · subst e
      refine ⟨[], g2, List.sublist_append_right _ _, ?_⟩
      rw [List.map_cons, List.map_cons, if_pos rfl, if_pos rfl]
      rw [noReplV (by rw [h2.keys]; exact nd.1), OwnK.noRepl (K := K) (G := G) (H := H) nd.1]
      exact .cons w h2
    · obtain ⟨l1, l2, z1, z2⟩ := OwnK.repl w h2 nd.2 (hm.resolve_left fun z => e z.symm)
      refine ⟨g1 ++ l1, l2, by rw [List.append_assoc]; exact z1.append_left g1, ?_⟩
      rw [List.map_cons, List.map_cons, if_neg e, if_neg e]
      have := OwnK.cons (k := k0) h1 z2
      simpa [List.append_assoc] using this
  | [], _ :: _, _, h, _, _ => by cases h
  | _ :: _, [], _, h, _, _ => by cases h
theorem s_dput0 {kvs : List (List Key × T)} {ks : List Key} (hu : X.A.units + 1 < cLine) (ho : E X ρ o (.pl n p)) (hi : E X ρ b r) (hv : view ρ r = some t1) (hk : isKey t1 ks) (he : E X ρ e (.tm t)) (et : ρ[n]? = some (some t0)) (ep : T.at p t0 = some (.dct kvs))
    (nd : (kvs.map (·.1)).Nodup) (hl : kvs.length < sizeLine) (h : Φ.nx (ρ.set n (some (T.put p t0 (.dct (tPut kvs ks t))))))
    (hs : swapsWith e (some (.Subscript o b spos)) pos.line X.env = pure false := by rfl) :
    S1 X W ρ (.Assign [.Subscript o b spos] e pos) Φ := fun c τ σ H tm s D P =>
  ts_of (ps_dput hu peS peS peS hs) (he c τ σ H s _ fun u H1 s1 => ho c _ σ H1 s1 _ fun v H2 s2 => hi c _ σ H2 s2 _ fun w H3 s3 => by
    obtain ⟨G, f, sb, wk, _⟩ := s3.top hv
    obtain ⟨bk, rfl, ek⟩ := hk.at sb wk
    have hv' : view ρ (.pl n p) = some (.dct kvs) := view_pl et ep
    obtain ⟨G, f, sb, w, _⟩ := s3.pop.top hv'
    obtain ⟨ar, vs, g, e1, _, e2, e3⟩ := w.is_dct
    refine ⟨ar, _, e1, DPut.t e2 ek (by rw [e3.len]; exact hl), P.nx _ _ _ h ?_⟩
    have s4 : StA X.K c ρ [u] [t] ((v, .pl n p) :: τ) σ H3 := by
      obtain ⟨G, fs, ft, C, L, M⟩ := s3.pop
      cases M with
      | pl a1 a2 a3 a4 M =>
        cases M with
        | tm M1 M2 =>
          rename_i f1 f2
          exact ⟨G, fs, f1 ++ [], f2, by simpa using C, L, .cons M1 .nil, .pl a1 a2 a3 a4 M2⟩
    refine s4.mut tm et ep fun G g fa sb w A nd' _ => ?_
    obtain ⟨a3, v3, g3, q1, q2, q3, q4⟩ := w.is_dct
    rw [e1] at q1
    cases q1
    rw [e2] at q3
    cases q3
    subst q2
    cases A with | @cons _ _ _ _ f1 f2 A1 A2 =>
    cases A2
    rw [List.append_nil] at nd' ⊢
    have na : ar ∉ g3 ++ f1 := (List.nodup_cons.mp nd').1
    have n1 : ar ∉ g3 := fun z => na (List.mem_append_left _ z)
    have n2 : ar ∉ f1 := fun z => na (List.mem_append_right _ z)
    have A1' := A1.keep (Same.refl _) _ _ _ (On.upd (H := H3) (o := .dT (putK vs ks u)) n2)
    have q4' := q4.keep (Same.refl _) _ _ _ (On.upd (H := H3) (o := .dT (putK vs ks u)) n1)
    by_cases hin : ks ∈ kvs.map (·.1)
    · have hany : (kvs.any fun kv => decide (kv.1 = ks)) = true := by
        obtain ⟨q, hq, e⟩ := List.mem_map.mp hin
        exact List.any_eq_true.mpr ⟨q, hq, decide_eq_true e⟩
      obtain ⟨l1, l2, z1, z2⟩ := OwnK.repl A1' q4' nd hin
      refine ⟨ar :: (l1 ++ f1 ++ l2), ar :: (l1 ++ l2 ++ f1), List.mem_cons_self, ?_, List.Sublist.cons₂ _ (z1.append_right f1), ?_⟩
      · refine List.Perm.cons _ ?_
        rw [List.append_assoc, List.append_assoc]
        exact List.Perm.append_left l1 List.perm_append_comm
      · have eV : putK vs ks u = vs.map (fun kv => if kv.1 = ks then (kv.1, u) else kv) := by unfold putK; rw [q4.anyk, hany, if_pos rfl]
        have eT : tPut kvs ks t = kvs.map (fun kv => if kv.1 = ks then (kv.1, t) else kv) := by unfold tPut; rw [hany, if_pos rfl]
        rw [e1, eT]
        exact .dct upd_same (eV.symm ▸ z2)
    · have hany : ¬ (kvs.any fun kv => decide (kv.1 = ks)) = true := fun z => by
        obtain ⟨q, hq, e⟩ := List.any_eq_true.mp z
        exact hin (List.mem_map.mpr ⟨q, hq, of_decide_eq_true e⟩)
      refine ⟨ar :: (g3 ++ f1), ar :: (g3 ++ f1), List.mem_cons_self, .refl _, .refl _, ?_⟩
      have eV : putK vs ks u = vs ++ [(ks, u)] := by unfold putK; rw [q4.anyk, if_neg hany]
      have eT : tPut kvs ks t = kvs ++ [(ks, t)] := by unfold tPut; rw [if_neg hany]
      rw [e1, eT]
      exact .dct upd_same (eV.symm ▸ OwnK.snoc A1' q4'))
end
end DL
namespace DL
open PySem PySem.Spec PyProof.Rows L2

structure Bx (X : Cx) (W : WX) (k : Nat) : Prop where
  calm : X.calm = true
  nd : X.N.Nodup
  takes : Takes X W
  passes : PassesOwn (model X.prog X.w) X.A X.env X.xe
  room : Room k X.A

section
variable (X : Cx) (tg : Expr)
def piS (iter : Expr) : TI := fun σ H R => ∀ pins s, Inv X pins σ H s → wpAny (model X.prog X.w) X.A (eval iter X.env) (fun v s1 => wpAny (model X.prog X.w) X.A (pyIter v) (PIE X pins σ tg R) X.xe s1) X.xe s
end
theorem piSS {X : Cx} {tg iter : Expr} : PI X tg iter (piS X tg iter) := ⟨fun pins s σ H R I h => h pins s I⟩
theorem pi_of {X : Cx} {tg iter : Expr} {wi : TI} {σ : L2.St} {H : Hp} {R : It → Hp → Prop} (h : PI X tg iter wi) (q : wi σ H R) : piS X tg iter σ H R := fun pins s I => h.run pins s σ H R I q
/-- J yields the items ds, the temporaries tmp kept -/
def Walks (K : PySem.W.Frag) (tmp : List (V × R)) (J : It) (ds : List D) : Prop := ∀ c ρ τ σ H, St K c ρ (tmp ++ τ) σ H →
  (∀ i x, ds[i]? = some x → J.go i H ∧ ∀ v H', J.yld i H v H' → St K c ρ ((v, .tm (.d x)) :: (tmp ++ τ)) σ H') ∧ J.stop ds.length H
def EI (X : Cx) (tg : Expr) (ρ : Rho) (iter : Expr) (ds : List D) : Prop := ∀ c τ σ H, St X.K c ρ τ σ H → ∀ R : It → Hp → Prop,
  (∀ J H' tmp, TmOnly tmp → Walks X.K tmp J ds → St X.K c ρ (tmp ++ τ) σ H' → R J H') → piS X tg iter σ H R

section
variable {X : Cx} {W : WX} {ρ : Rho} {Φ : Ph} {a b e iter tg : Expr} {r : R} {t : T} {pos p : Pos} {i j : Int} {ds : List D} {n : Nat}
theorem TmOnly.nil : TmOnly [] := fun _ h => nomatch h
theorem TmOnly.app {τ τ' : List (V × R)} (h : TmOnly τ) (h' : TmOnly τ') : TmOnly (τ ++ τ') := fun q hq => (List.mem_append.mp hq).elim (h q) (h' q)
theorem St.dropN {K : PySem.W.Frag} {c : Cst} {σ : L2.St} {H : Hp} : ∀ {tmp τ : List (V × R)}, St K c ρ (tmp ++ τ) σ H → St K c ρ τ σ H
  | [], _, s => s
  | _ :: tmp, τ, s => St.dropN (tmp := tmp) s.pop
theorem Temps.mid {K : PySem.W.Frag} {G H : Hp} {σ : L2.St} : ∀ {tmp τ : List (V × R)} {f : List Addr}, Temps K G H ρ σ (tmp ++ τ) f → ∃ f', f'.Sublist f ∧ Temps K G H ρ σ τ f'
  | [], _, f, h => ⟨f, .refl _, h⟩
  | _ :: tmp, _, _, .tm h1 h2 => let ⟨f', s, w⟩ := Temps.mid (tmp := tmp) h2; ⟨f', s.trans (List.sublist_append_right _ _), w⟩
  | _ :: tmp, _, _, .pl _ _ _ _ h2 => Temps.mid (tmp := tmp) h2
/-- the temporaries below the newest let go -/
theorem St.dropMid {K : PySem.W.Frag} {c : Cst} {σ : L2.St} {H : Hp} {v : V} {t : T} {tmp τ : List (V × R)} (s : St K c ρ ((v, .tm t) :: (tmp ++ τ)) σ H) : St K c ρ ((v, .tm t) :: τ) σ H := by
  obtain ⟨G, fs, ft, C, L, M⟩ := s
  cases M with
  | @tm _ _ _ f1 f2 h1 h2 =>
    obtain ⟨f', sb, w⟩ := h2.mid
    exact ⟨G, fs, f1 ++ f', C.sl ((sb.append_left f1).append_left fs), L, .tm h1 w⟩
/-- a temporary that is data, wherever it lies -/
theorem St.deep {K : PySem.W.Frag} {c : Cst} {σ : L2.St} {H : Hp} {v : V} {x : D} {τ : List (V × R)} (s : St K c ρ ((v, .tm (.d x)) :: τ) σ H) : ∃ G, Same G H ∧ Dr K G v x := by
  obtain ⟨G, f, sb, o, _⟩ := s.top (t := .d x) rfl
  exact ⟨G, sb, o.is_d.1⟩
theorem St.dup {K : PySem.W.Frag} {c : Cst} {σ : L2.St} {H : Hp} {v : V} {x : D} {τ : List (V × R)} (s : St K c ρ ((v, .tm (.d x)) :: τ) σ H) : St K c ρ ((v, .tm (.d x)) :: (v, .tm (.d x)) :: τ) σ H := by
  obtain ⟨G, fs, ft, C, L, M⟩ := s
  cases M with
  | @tm _ _ _ f1 f2 h1 h2 =>
    cases h1 with | d h1 =>
    exact ⟨G, fs, [] ++ ([] ++ f2), C, L, .tm (.d h1) (.tm (.d h1) h2)⟩

theorem i_list (he : E X ρ e (.tm (.d (.lst ds)))) : EI X tg ρ e ds := fun c τ σ H s R q => pi_of (pi_list peS) (he c τ σ H s _ fun v H1 s1 => by
  obtain ⟨a, vs, e1, e2, e3⟩ := (s1.see (t := .d (.lst ds)) rfl).is_lst
  refine ⟨a, e1, ⟨vs, SqL.of e2⟩, q _ _ [(v, .tm (.d (.lst ds)))] (TmOnly.nil.cons) (fun c ρ τ σ H s => ⟨fun i x hx => ?_, ?_⟩) s1⟩
  · obtain ⟨a', vs', f1, f2, f3⟩ := (s.see (t := .d (.lst ds)) rfl).is_lst
    rw [e1] at f1
    cases f1
    obtain ⟨u0, g1, _⟩ := f3.get hx
    refine ⟨⟨vs', u0, SqL.of f2, g1⟩, fun v' H' ⟨eH, y⟩ => ?_⟩
    subst eH
    have y1 := y vs' (SqL.of f2)
    rw [g1] at y1
    cases y1
    -- the item out of the list's data
    obtain ⟨u, hu, s'⟩ := s.dup.derive (P := fun u => u = u0) (y := x) fun G sb h => by
      obtain ⟨a2, vs2, k1, k2, k3⟩ := h.is_lst
      rw [e1] at k1
      cases k1
      obtain ⟨u, g2, g3⟩ := k3.get hx
      have : vs2 = vs' := by
        have := sb _ _ k2
        rw [f2] at this
        cases this; rfl
      subst this
      rw [g1] at g2
      cases g2
      exact ⟨_, rfl, g3⟩
    subst hu
    exact s'
  · obtain ⟨a', vs', f1, f2, f3⟩ := (s.see (t := .d (.lst ds)) rfl).is_lst
    rw [e1] at f1
    cases f1
    exact ⟨vs', SqL.of f2, Nat.le_of_eq f3.len⟩)
theorem i_scr {ns : List Int} (he : E X ρ e (.tm (.d (.scr ns)))) : EI X tg ρ e (ns.map D.int) := fun c τ σ H s R q => pi_of (pi_list peS) (he c τ σ H s _ fun v H1 s1 => by
  obtain ⟨a, e1, e2⟩ := (s1.see (t := .d (.scr ns)) rfl).is_scr
  refine ⟨a, e1, ⟨_, e2⟩, q _ _ [(v, .tm (.d (.scr ns)))] (TmOnly.nil.cons) (fun c ρ τ σ H s => ⟨fun i x hx => ?_, ?_⟩) s1⟩
  · obtain ⟨a', f1, f2⟩ := (s.see (t := .d (.scr ns)) rfl).is_scr
    rw [e1] at f1
    cases f1
    rw [List.getElem?_map] at hx
    obtain ⟨z, hz, ez⟩ := Option.map_eq_some_iff.mp hx
    subst ez
    have g1 : (ns.map V.int)[i]? = some (V.int z) := by rw [List.getElem?_map, hz]; rfl
    refine ⟨⟨_, _, f2, g1⟩, fun v' H' ⟨eH, y⟩ => ?_⟩
    subst eH
    have y1 := y _ f2
    rw [g1] at y1
    cases y1
    exact s.int
  · obtain ⟨a', f1, f2⟩ := (s.see (t := .d (.scr ns)) rfl).is_scr
    rw [e1] at f1
    cases f1
    exact ⟨_, f2, by simp⟩)
/-- lo, lo + 1, .. -/
theorem walk_rng (K : PySem.W.Frag) (lo : Int) (n : Nat) (enc : Nat → D) (henc : ∀ i : Nat, enc i = D.int (lo + i)) : Walks K [] (Itr lo n) ((List.range n).map enc) := fun c ρ τ σ H s => ⟨fun i x hx => by
  rw [List.getElem?_map] at hx
  obtain ⟨z, hz, ez⟩ := Option.map_eq_some_iff.mp hx
  obtain ⟨h1, h2⟩ := List.getElem?_eq_some_iff.mp hz
  rw [List.length_range] at h1
  rw [List.getElem_range] at h2
  subst h2 ez
  refine ⟨h1, fun v H' ⟨e1, e2⟩ => ?_⟩
  subst e1 e2
  rw [henc]
  exact s.int, by rw [List.length_map, List.length_range]; exact Nat.le_refl _⟩
def encN (i : Nat) : D := .int (i : Int)
theorem i_range1 {m : Nat} (he : E X ρ e (.tm (.d (.int (m : Int))))) (hm : X.mg "range" = none) (h2 : m < 2 ^ 62) (hg : Gl X "range" := by rfl) (hs : starEach [e] X.env = [(false, eval e X.env)] := by rfl) (hs2 : starEach [e] X.env = (false, eval e X.env) :: starEach [] X.env := by rfl) :
    EI X tg ρ (.Call (.Name "range" p) [e] [] pos) ((List.range m).map encN) := fun c τ σ H s R q => pi_of (pi_range1 hg hm (pa_cons peS pa_nil hs2) hs) (he c τ σ H s _ fun v H1 s1 => by
  obtain rfl := s1.vint
  exact ⟨(m : Int), rfl, by omega, by omega, by rw [Int.toNat_natCast]; exact q _ _ [] TmOnly.nil (walk_rng _ _ _ _ fun i => by simp [encN]) s1.pop⟩)
def encI (lo : Int) (i : Nat) : D := .int (lo + i)
theorem i_range2 {m : Nat} (ha : E X ρ a (.tm (.d (.int i)))) (hb : E X ρ b (.tm (.d (.int j)))) (hm : X.mg "range" = none) (h1 : -(2 ^ 62) ≤ i) (h2 : i < 2 ^ 62) (h3 : -(2 ^ 62) ≤ j) (h4 : j < 2 ^ 62) (hn : (j - i).toNat = m) (hg : Gl X "range" := by rfl)
    (hs : starEach [a, b] X.env = [(false, eval a X.env), (false, eval b X.env)] := by rfl) (hs2 : starEach [b] X.env = [(false, eval b X.env)] := by rfl) (hs3 : starEach [a, b] X.env = (false, eval a X.env) :: starEach [b] X.env := by rfl) (hs4 : starEach [b] X.env = (false, eval b X.env) :: starEach [] X.env := by rfl) :
    EI X tg ρ (.Call (.Name "range" p) [a, b] [] pos) ((List.range m).map (encI i)) := fun c τ σ H s R q => pi_of (pi_range2 hg hm (pa_cons peS (pa_cons peS pa_nil hs4) hs3) hs hs2) (ha c τ σ H s _ fun v H1 s1 => hb c _ σ H1 s1 _ fun u H2 s2 => by
  obtain rfl := s2.vint
  obtain rfl := s2.pop.vint
  subst hn
  exact ⟨i, j, rfl, ⟨h1, h2, h3, h4⟩, q _ _ [] TmOnly.nil (walk_rng _ _ _ _ fun i => rfl) s2.pop.pop⟩)
/-- the signs of a text -/
def encC (c : Nat) : D := .str ⟨#[c]⟩
theorem i_str {z : Str} (he : E X ρ e (.tm (.d (.str z)))) : EI X tg ρ e (z.cps.toList.map encC) := fun c τ σ H s R q => pi_of (pi_str peS) (he c τ σ H s _ fun v H1 s1 => by
  obtain rfl := s1.vstr
  refine ⟨z, rfl, q _ _ [] TmOnly.nil (fun c ρ τ σ H s => ⟨fun i x hx => ?_, ?_⟩) s1.pop⟩
  · rw [List.getElem?_map] at hx
    obtain ⟨w, hw, ew⟩ := Option.map_eq_some_iff.mp hx
    have hi : i < z.cps.size := by
      have := (List.getElem?_eq_some_iff.mp hw).1
      simpa using this
    refine ⟨hi, fun v H' ⟨e1, c0, e2, e3⟩ => ?_⟩
    subst e1 e3 ew
    have : c0 = w := by
      rw [Array.getElem?_toList] at hw
      rw [e2] at hw
      exact Option.some.inj hw
    subst this
    exact s.push fun _ => .str _
  · rw [List.length_map, Array.length_toList]
    exact Nat.le_refl _)
/-- an item of a list that is data -/
theorem St.item {K : PySem.W.Frag} {c : Cst} {σ : L2.St} {H : Hp} {a : Addr} {vs : List V} {u : V} {x : D} {τ : List (V × R)} {k : Nat} (s : St K c ρ ((.ref a, .tm (.d (.lst ds))) :: τ) σ H) (hx : ds[k]? = some x) (h2 : H a = some (.lst vs)) (h3 : vs[k]? = some u) :
    St K c ρ ((u, .tm (.d x)) :: (.ref a, .tm (.d (.lst ds))) :: τ) σ H := by
  obtain ⟨u', hu, s'⟩ := s.dup.derive (P := fun u' => u' = u) (y := x) fun G sb h => by
    obtain ⟨a2, vs2, k1, k2, k3⟩ := h.is_lst
    cases k1
    obtain ⟨u', g2, g3⟩ := k3.get hx
    have : vs2 = vs := by
      have := sb _ _ k2
      rw [h2] at this
      cases this; rfl
    subst this
    rw [h3] at g2
    cases g2
    exact ⟨_, rfl, g3⟩
  subst hu
  exact s'
/-- reversed(xs) -/
theorem i_rev (he : E X ρ e (.tm (.d (.lst ds)))) (hm : X.mg "reversed" = none) (hg : Gl X "reversed" := by rfl) (hs : starEach [e] X.env = [(false, eval e X.env)] := by rfl) (hs2 : starEach [e] X.env = (false, eval e X.env) :: starEach [] X.env := by rfl) :
    EI X tg ρ (.Call (.Name "reversed" p) [e] [] pos) ds.reverse := fun c τ σ H s R q => pi_of (pi_reversed hg hm (pa_cons peS pa_nil hs2) hs) (he c τ σ H s _ fun v H1 s1 => by
  obtain ⟨a, vs, e1, e2, e3⟩ := (s1.see (t := .d (.lst ds)) rfl).is_lst
  subst e1
  refine ⟨a, vs, rfl, SqL.of e2, q _ _ [(.ref a, .tm (.d (.lst ds)))] (TmOnly.nil.cons) (fun c ρ τ σ H s => ⟨fun i x hx => ?_, ?_⟩) s1⟩
  · obtain ⟨hi, hx'⟩ : i < ds.length ∧ ds[ds.length - 1 - i]? = some x := by
      have h1 := (List.getElem?_eq_some_iff.mp hx).1
      rw [List.length_reverse] at h1
      rw [List.getElem?_reverse h1] at hx
      exact ⟨h1, hx⟩
    obtain ⟨a', vs', f1, f2, f3⟩ := (s.see (t := .d (.lst ds)) rfl).is_lst
    cases f1
    obtain ⟨u0, g1, _⟩ := f3.get hx'
    have hl : vs.length = ds.length := e3.len
    refine ⟨⟨by omega, vs', u0, SqL.of f2, by rw [hl]; exact g1⟩, fun v' H' ⟨eH, y⟩ => ?_⟩
    subst eH
    have y1 := y vs' (SqL.of f2)
    rw [hl, g1] at y1
    cases y1
    exact s.item hx' f2 g1
  · show vs.length ≤ ds.reverse.length
    rw [List.length_reverse, e3.len]; exact Nat.le_refl _)

theorem s_for {α : Type} {xs : List α} {enc : α → D} {body : List Stmt} {k : Nat} (n : Nat) {nm : Str} {pos' : Pos} (Y : Bx X W k) (hi : EI X (.Name nm pos') ρ iter (xs.map enc)) (Iv : Nat → Rho → Prop) (h0 : Iv 0 ρ) (hlen : ∀ i ρ', Iv i ρ' → n < ρ'.length)
    (hb : ∀ i x ρ', xs[i]? = some x → Iv i ρ' → S X W (ρ'.set n (some (.d (enc x)))) body { Φ with nx := Iv (i + 1), ct := Iv (i + 1), bk := Φ.nx }) (hd : ∀ ρ', Iv xs.length ρ' → Φ.nx ρ')
    (hn : X.N[n]? = some nm := by rfl) (hx : Loc X.env.scope nm := by first | exact Or.inl rfl | exact Or.inr rfl) (hs : ∀ x, foldedSetIterable iter X.env x = pure x := by intro _; rfl)
    (hf : X.fn nm = true ∨ X.env.scope.names.lookup nm = some .local := by first | exact .inl rfl | exact .inr rfl | assumption) : S1 X W ρ (.For (.Name nm pos') iter body [] pos) Φ := fun c τ σ H tm s D P =>
  ts_of (ps_for Y.passes Y.calm piSS (pg_name Y.nd hn hx hf) pbS hs) (hi c τ σ H s _ fun J H1 tmp tmO wk s1 => by
    refine ⟨fun i m σ H => m = xs.length - i ∧ i ≤ xs.length ∧ ∃ ρ', Iv i ρ' ∧ St X.K c ρ' (tmp ++ τ) σ H, ⟨_, rfl, Nat.zero_le _, ρ, h0, s1⟩, ?_⟩
    rintro i m σ2 H2 ⟨rfl, hi, ρ', iv, s2⟩
    by_cases hlt : i < xs.length
    · obtain ⟨go, yl⟩ := (wk c ρ' τ σ2 H2 s2).1 i (enc xs[i]) (by rw [List.getElem?_map, List.getElem?_eq_getElem hlt]; rfl)
      refine .inr ⟨go, fun σ' H' => ∃ ρ'', Iv (i + 1) ρ'' ∧ St X.K c ρ'' (tmp ++ τ) σ' H', fun σ' H' ⟨ρ'', iv', s'⟩ => ⟨xs.length - (i + 1), by omega, rfl, hlt, ρ'', iv', s'⟩, fun v H3 y => ?_⟩
      have s3 := (yl v H3 y).store (i := n) (hlen i ρ' iv) (tmO.app tm)
      refine hb i _ ρ' (List.getElem?_eq_getElem hlt) iv c (tmp ++ τ) _ H3 (tmO.app tm) s3 _ ⟨fun ρ4 σ4 H4 q s4 => ⟨ρ4, q, s4⟩, fun t ρ4 v σ4 H4 q s4 => P.rt t ρ4 v σ4 H4 q s4.dropMid, fun ρ4 σ4 H4 q s4 => P.nx ρ4 σ4 H4 q s4.dropN, fun ρ4 σ4 H4 q s4 => ⟨ρ4, q, s4⟩, fun cls ρ4 σ4 H4 q s4 => P.ex cls ρ4 σ4 H4 q s4.dropN⟩
    · have e : i = xs.length := by omega
      subst e
      have z := (wk c ρ' τ σ2 H2 s2).2
      rw [List.length_map] at z
      exact .inl ⟨z, P.nx ρ' σ2 H2 (hd ρ' iv) s2.dropN⟩)
theorem s_while {c0 : Expr} {body : List Stmt} {k : Nat} (Y : Bx X W k) (Iv : Nat → Rho → Prop) (h0 : ∃ m, Iv m ρ)
    (hb : ∀ m ρ', Iv m ρ' → ∃ b, Tt X ρ' c0 b ∧ (b = true → S X W ρ' body { Φ with nx := fun ρ'' => ∃ m', m' < m ∧ Iv m' ρ'', ct := fun ρ'' => ∃ m', m' < m ∧ Iv m' ρ'', bk := Φ.nx }) ∧ (b = false → Φ.nx ρ')) : S1 X W ρ (.While c0 body [] pos) Φ := fun c τ σ H tm s D P =>
  ts_of (ps_while Y.passes ptS pbS) (by
    obtain ⟨m0, i0⟩ := h0
    refine ⟨fun m σ H => ∃ ρ', Iv m ρ' ∧ St X.K c ρ' τ σ H, ⟨m0, ρ, i0, s⟩, ?_⟩
    rintro m σ2 H2 ⟨ρ', iv, s2⟩
    obtain ⟨b, ht, h1, h2⟩ := hb m ρ' iv
    refine ht c τ σ2 H2 s2 _ fun H3 s3 => ?_
    cases b with
    | true =>
      refine ⟨fun σ' H' => ∃ m', m' < m ∧ ∃ ρ'', Iv m' ρ'' ∧ St X.K c ρ'' τ σ' H', fun σ' H' h => h, ?_⟩
      exact h1 rfl c τ σ2 H3 tm s3 _ ⟨fun ρ4 σ4 H4 ⟨m', l, q⟩ s4 => ⟨m', l, ρ4, q, s4⟩, P.rt, P.nx, fun ρ4 σ4 H4 ⟨m', l, q⟩ s4 => ⟨m', l, ρ4, q, s4⟩, P.ex⟩
    | false => exact P.nx ρ' σ2 H3 (h2 rfl) s3)

/-- a block of a comprehension in X -/
abbrev blkX (X : Cx) (scope : Scope) (s : Shared) (H : Hp) (C : Addr) (cl : List (Str × Addr)) (fp : List Addr) : Cx := X.blk s H scope (compEnvC scope cl C X.env) fp
/-- a clause's tests -/
def tpS (X : Cx) (ifs : List Expr) : TT := fun σ H Q => ∀ pins s, Inv X pins σ H s →
    wpAny (model X.prog X.w) X.A (forIn ifs true fun c r => if r = true then do let ok ← isTrue c X.env (eval c X.env); pure (ForInStep.yield ok) else pure (ForInStep.yield r)) (TP X pins σ Q) X.xe s
def Ts (X : Cx) (ρ : Rho) (ifs : List Expr) (b : Bool) : Prop := ∀ c τ σ H, St X.K c ρ τ σ H → ∀ Q : Bool → Hp → Prop, (∀ H', St X.K c ρ τ σ H' → Q b H') → tpS X ifs σ H Q
theorem ts_nil : Ts X ρ [] true := fun c τ σ H s Q q => fun pins s0 I => (pts_nil (X := X)).run pins s0 σ H Q I (q H s)
theorem ts_one {c0 : Expr} {b : Bool} (h : Tt X ρ c0 b) : Ts X ρ [c0] b := fun c τ σ H s Q q => fun pins s0 I => (pts_one (X := X) ptS).run pins s0 σ H Q I (h c τ σ H s Q q)
theorem wipe_one {σ : L2.St} {n : Nat} : wipe σ [n] = σ.set n none := rfl
theorem Rho.wiped (h : ρ[n]? = some none) : ρ.set n none = ρ := by
  obtain ⟨hk, ek⟩ := List.getElem?_eq_some_iff.mp h
  rw [← ek, List.set_getElem_self]
/-- a slot of which nothing is known may hold anything -/
theorem Slots.any {K : PySem.W.Frag} {G H : Hp} : ∀ {ρ : Rho} {σ : L2.St} {fp : List Addr} {n : Nat} {x : Option V}, Slots K G H ρ σ fp → ρ[n]? = some none → Slots K G H ρ (σ.set n x) fp
  | _, _, _, n, x, .nil, h => by simp at h
  | none :: ρ, y :: σ, fp, 0, x, .non h, q => .non h
  | none :: ρ, y :: σ, fp, n + 1, x, .non h, q => .non (Slots.any h (by simpa using q))
  | some t0 :: ρ, some v :: σ, _, 0, x, .som h1 h2, q => by simp at q
  | some t0 :: ρ, some v :: σ, _, n + 1, x, .som h1 h2, q => .som h1 (Slots.any h2 (by simpa using q))
theorem Temps.any {K : PySem.W.Frag} {G H : Hp} {σ : L2.St} {n : Nat} {x : Option V} (h : ρ[n]? = some none) : ∀ {τ : List (V × R)} {f : List Addr}, Temps K G H ρ σ τ f → Temps K G H ρ (σ.set n x) τ f
  | _, _, .nil => .nil
  | _, _, .tm h1 h2 => .tm h1 (Temps.any h h2)
  | _, _, .pl (i := i) a1 a2 a3 a4 h2 => .pl (by
      have : n ≠ i := fun z => by subst z; rw [a2] at h; cases h
      rw [List.getElem?_set_ne this]; exact a1) a2 a3 a4 (Temps.any h h2)
theorem St.any {K : PySem.W.Frag} {c : Cst} {σ : L2.St} {H : Hp} {τ : List (V × R)} {x : Option V} (s : St K c ρ τ σ H) (h : ρ[n]? = some none) : St K c ρ τ (σ.set n x) H := by
  obtain ⟨G, fs, ft, C, L, M⟩ := s
  exact ⟨G, fs, ft, C, L.any h, M.any h⟩
/-- a slot of which nothing is known is stored, places kept -/
theorem Temps.stored {K : PySem.W.Frag} {G H : Hp} {σ : L2.St} {n : Nat} {x : Option V} {t : T} (h : ρ[n]? = some none) : ∀ {τ : List (V × R)} {f : List Addr}, Temps K G H ρ σ τ f → Temps K G H (ρ.set n (some t)) (σ.set n x) τ f
  | _, _, .nil => .nil
  | _, _, .tm h1 h2 => .tm h1 (Temps.stored h h2)
  | _, _, .pl (i := i) a1 a2 a3 a4 h2 => by
      have : n ≠ i := fun z => by subst z; rw [a2] at h; cases h
      exact .pl (by rw [List.getElem?_set_ne this]; exact a1) (by rw [List.getElem?_set_ne this]; exact a2) a3 a4 (Temps.stored h h2)
theorem Temps.unstored {K : PySem.W.Frag} {G H : Hp} {σ : L2.St} {n : Nat} {x : Option V} {t : T} (h : ρ[n]? = some none) : ∀ {τ : List (V × R)} {f : List Addr}, Temps K G H (ρ.set n (some t)) σ τ f → (∀ q ∈ τ, ∀ p, q.2 ≠ .pl n p) → Temps K G H ρ (σ.set n x) τ f
  | _, _, .nil, _ => .nil
  | _, _, .tm h1 h2, z => .tm h1 (Temps.unstored h h2 fun q hq => z q (List.mem_cons_of_mem _ hq))
  | _, _, .pl (i := i) (p := p) a1 a2 a3 a4 h2, z => by
      have : n ≠ i := fun e => z _ List.mem_cons_self p (by rw [e])
      exact .pl (by rw [List.getElem?_set_ne this]; exact a1) (by rw [List.getElem?_set_ne this] at a2; exact a2) a3 a4 (Temps.unstored h h2 fun q hq => z q (List.mem_cons_of_mem _ hq))
theorem St.storeP {K : PySem.W.Frag} {c : Cst} {σ : L2.St} {H : Hp} {v : V} {t : T} {τ : List (V × R)} (s : St K c ρ ((v, .tm t) :: τ) σ H) (h : ρ[n]? = some none) : St K c (ρ.set n (some t)) τ (σ.set n (some v)) H := by
  obtain ⟨G, fs, ft, C, L, M⟩ := s
  cases M with
  | @tm _ _ _ f1 f2 h1 h2 =>
    obtain ⟨l1, l2, s, w⟩ := L.store n (List.getElem?_eq_some_iff.mp h).1 h1
    refine ⟨G, _, f2, ?_, w, h2.stored h⟩
    have C' : Core c G H ((l1 ++ l2) ++ (f1 ++ f2)) := C.sl (s.append_right _)
    refine C'.perm ?_
    rw [List.append_assoc, List.append_assoc, List.append_assoc]
    refine List.Perm.append_left l1 ?_
    rw [← List.append_assoc, ← List.append_assoc]
    exact List.Perm.append_right f2 List.perm_append_comm
theorem Slots.back {K : PySem.W.Frag} {G H : Hp} {t : T} {x : Option V} : ∀ {ρ : Rho} {σ : L2.St} {fp : List Addr} {n : Nat}, Slots K G H (ρ.set n (some t)) σ fp → ρ[n]? = some none → ∃ fp', fp'.Sublist fp ∧ Slots K G H ρ (σ.set n x) fp' := fun {ρ σ fp n} h q => by
  obtain ⟨fp', s, w⟩ := h.drop n x
  rw [List.set_set, Rho.wiped q] at w
  exact ⟨fp', s, w⟩
theorem St.back {K : PySem.W.Frag} {c : Cst} {σ : L2.St} {H : Hp} {t : T} {x : Option V} {τ : List (V × R)} (s : St K c (ρ.set n (some t)) τ σ H) (h : ρ[n]? = some none) (z : ∀ q ∈ τ, ∀ p, q.2 ≠ .pl n p) : St K c ρ τ (σ.set n x) H := by
  obtain ⟨G, fs, ft, C, L, M⟩ := s
  obtain ⟨fp', sb, w⟩ := L.back (x := x) h
  exact ⟨G, fp', ft, C.sl (sb.append_right _), w, M.unstored h z⟩
theorem St.noPl {K : PySem.W.Frag} {c : Cst} {σ : L2.St} {H : Hp} {τ : List (V × R)} (s : St K c ρ τ σ H) (h : ρ[n]? = some none) : ∀ q ∈ τ, ∀ p, q.2 ≠ .pl n p := by
  obtain ⟨G, fs, ft, C, L, M⟩ := s
  intro q hq p e
  clear C L
  induction M with
  | nil => cases hq
  | tm h1 h2 ih =>
    rcases List.mem_cons.mp hq with z | z
    · subst z; cases e
    · exact ih z
  | pl a1 a2 a3 a4 h2 ih =>
    rcases List.mem_cons.mp hq with z | z
    · subst z
      cases e
      rw [a2] at h; cases h
    · exact ih z
theorem Temps.perm {K : PySem.W.Frag} {G H : Hp} {σ : L2.St} {τ τ' : List (V × R)} (h : τ.Perm τ') : ∀ {f : List Addr}, Temps K G H ρ σ τ f → ∃ f', f.Perm f' ∧ Temps K G H ρ σ τ' f' := by
  induction h with
  | nil => exact fun {f} h => ⟨f, .refl _, h⟩
  | cons x h ih =>
    intro f w
    cases w with
    | tm h1 h2 =>
      obtain ⟨f', p, w'⟩ := ih h2
      exact ⟨_, p.append_left _, .tm h1 w'⟩
    | pl a1 a2 a3 a4 h2 =>
      obtain ⟨f', p, w'⟩ := ih h2
      exact ⟨_, p, .pl a1 a2 a3 a4 w'⟩
  | swap x y l =>
    intro f w
    cases w with
    | tm h1 h2 =>
      cases h2 with
      | tm h3 h4 => exact ⟨_, by rw [← List.append_assoc, ← List.append_assoc]; exact List.Perm.append_right _ List.perm_append_comm, .tm h3 (.tm h1 h4)⟩
      | pl a1 a2 a3 a4 h4 => exact ⟨_, .refl _, .pl a1 a2 a3 a4 (.tm h1 h4)⟩
    | pl a1 a2 a3 a4 h2 =>
      cases h2 with
      | tm h3 h4 => exact ⟨_, .refl _, .tm h3 (.pl a1 a2 a3 a4 h4)⟩
      | pl b1 b2 b3 b4 h4 => exact ⟨_, .refl _, .pl b1 b2 b3 b4 (.pl a1 a2 a3 a4 h4)⟩
  | trans h1 h2 i1 i2 =>
    intro f w
    obtain ⟨f1, p1, w1⟩ := i1 w
    obtain ⟨f2, p2, w2⟩ := i2 w1
    exact ⟨f2, p1.trans p2, w2⟩
theorem St.perm {K : PySem.W.Frag} {c : Cst} {σ : L2.St} {H : Hp} {τ τ' : List (V × R)} (s : St K c ρ τ σ H) (h : τ.Perm τ') : St K c ρ τ' σ H := by
  obtain ⟨G, fs, ft, C, L, M⟩ := s
  obtain ⟨f', p, w⟩ := M.perm h
  exact ⟨G, fs, f', C.perm (p.append_left fs), L, w⟩
theorem Own.at0Keep {K : PySem.W.Frag} {G H H' : Hp} : ∀ {p : List Nat} {t s : T} {v u : V} {f : List Addr}, Own K G H v t f → T.at0 p t = some s → atV H p v = some u → On f H H' → atV H' p v = some u
  | [], t, s, v, u, f, _, _, h, _ => h
  | k :: p, t, s, v, u, f, w, e, h, o => by
    cases w with
    | d _ => cases e
    | obj _ _ => cases e
    | tag _ => cases e
    | @lst a vs ts g w1 w2 =>
      obtain ⟨t0, e1, e2⟩ := Option.bind_eq_some_iff.mp (show (ts[k]?).bind (T.at0 p) = some s from e)
      obtain ⟨u0, l1, f0, l2, b1, b2, b3, _⟩ := w2.get e1
      unfold atV at h ⊢
      rw [w1] at h
      rw [o a List.mem_cons_self _ w1]
      obtain ⟨x, z1, z2⟩ := Option.bind_eq_some_iff.mp h
      rw [b1] at z1
      cases z1
      exact Option.bind_eq_some_iff.mpr ⟨u0, b1, Own.at0Keep b3 e2 z2 (o.sub fun q hq => by rw [b2]; simp [hq])⟩
    | @tup a vs ts g w1 w2 =>
      obtain ⟨t0, e1, e2⟩ := Option.bind_eq_some_iff.mp (show (ts[k]?).bind (T.at0 p) = some s from e)
      obtain ⟨u0, l1, f0, l2, b1, b2, b3, _⟩ := w2.get e1
      unfold atV at h ⊢
      rw [w1] at h
      rw [o a List.mem_cons_self _ w1]
      obtain ⟨x, z1, z2⟩ := Option.bind_eq_some_iff.mp h
      rw [b1] at z1
      cases z1
      exact Option.bind_eq_some_iff.mpr ⟨u0, b1, Own.at0Keep b3 e2 z2 (o.sub fun q hq => by rw [b2]; simp [hq])⟩
    | @dct a vs ts g w1 w2 =>
      obtain ⟨t0, e1, e2⟩ := Option.bind_eq_some_iff.mp (show (ts[k]?).bind (fun q => T.at0 p q.2) = some s from e)
      obtain ⟨u0, l1, f0, l2, b1, b2, b3, _⟩ := w2.get e1
      unfold atV at h ⊢
      rw [w1] at h
      rw [o a List.mem_cons_self _ w1]
      obtain ⟨x, z1, z2⟩ := Option.bind_eq_some_iff.mp h
      rw [b1] at z1
      cases z1
      exact Option.bind_eq_some_iff.mpr ⟨_, b1, Own.at0Keep b3 e2 z2 (o.sub fun q hq => by rw [b2]; simp [hq])⟩
theorem Own.atKeep {K : PySem.W.Frag} {G H H' : Hp} {p : List Nat} {t s : T} {v u : V} {f : List Addr} (w : Own K G H v t f) (e : T.at p t = some s) (h : atV H p v = some u) (o : On f H H') : atV H' p v = some u := by
  cases t with
  | tag a t => cases w with | tag w => exact Own.at0Keep w e h o
  | _ => exact Own.at0Keep w e h o
theorem Temps.keepS {K : PySem.W.Frag} {G G' H H' : Hp} {σ : L2.St} {fs : List Addr} (e : Same G G') (L : Slots K G H ρ σ fs) (o : On fs H H') : ∀ {τ : List (V × R)} {f : List Addr}, Temps K G H ρ σ τ f → On f H H' → Temps K G' H' ρ σ τ f
  | _, _, .nil, _ => .nil
  | _, _, .tm h1 h2, q => .tm (h1.keep e _ _ _ q.l) (Temps.keepS e L o h2 q.r)
  | _, _, .pl a1 a2 a3 a4 h2, q => .pl a1 a2 a3 (by
      obtain ⟨v, l1, f, l2, b1, b2, b3, _⟩ := L.get a2
      rw [a1] at b1
      cases b1
      exact b3.atKeep a3 a4 (o.sub fun z hz => by rw [b2]; simp [hz])) (Temps.keepS e L o h2 q)
/-- a list held by the temporary below the newest grows by the newest -/
theorem St.grow {K : PySem.W.Frag} {c : Cst} {σ : L2.St} {H : Hp} {y : V} {t : T} {D0 : Addr} {ts : List T} {τ : List (V × R)} (s : St K c ρ ((y, .tm t) :: (.ref D0, .tm (.lst ts)) :: τ) σ H) :
    ∃ acc, H D0 = some (.lst acc) ∧ acc.length = ts.length ∧ St K c ρ ((.ref D0, .tm (.lst (ts ++ [t]))) :: τ) σ (upd H D0 (.lst (acc ++ [y]))) := by
  obtain ⟨G, fs, ft, C, L, M⟩ := s
  cases M with
  | @tm _ _ _ f1 f2 h1 h2 =>
  cases h2 with
  | @tm _ _ _ f3 f4 h3 h4 =>
  obtain ⟨a, vs, g, e1, e2, e3, e4⟩ := h3.is_lst
  cases e1
  subst e2
  have P1 : (fs ++ (f1 ++ ((D0 :: g) ++ f4))).Perm ([D0] ++ (fs ++ ((g ++ f1) ++ f4))) := by
    rw [List.perm_iff_count]
    intro z
    simp only [List.count_append, List.count_cons, List.count_nil]
    omega
  have C1 := C.perm P1
  obtain ⟨n1, n2, n3⟩ := List.nodup_append.mp C1.nd
  have out : ∀ b, b ∈ fs ++ ((g ++ f1) ++ f4) → b ≠ D0 := fun b hb z => n3 D0 (by simp) b hb z.symm
  have na : ∀ l : List Addr, (∀ b ∈ l, b ∈ fs ++ ((g ++ f1) ++ f4)) → On l H (upd H D0 (.lst (vs ++ [y]))) := fun l hl b hb o q => by
    rw [upd_ne (out b (hl b hb))]; exact q
  have GD : G D0 = none := (C1.own D0 (by simp)).1
  have w1 : Owns K G H [y] [t] f1 := by simpa using Owns.cons h1 .nil
  refine ⟨vs, e3, e4.len, G, fs, (D0 :: (g ++ f1)) ++ f4, ?_, L.keep (Same.refl _) (na _ fun b hb => by simp [hb]), .tm (.lst upd_same ((e4.append w1).keep (Same.refl _) _ _ _ (na _ fun b hb => by simp only [List.mem_append] at hb ⊢; rcases hb with z | z <;> simp [z]))) (h4.keepS (Same.refl _) L (na _ fun b hb => by simp [hb]) (na _ fun b hb => by simp [hb]))⟩
  have P2 : (fs ++ (f1 ++ ((D0 :: g) ++ f4))).Perm (fs ++ ((D0 :: (g ++ f1)) ++ f4)) := by
    rw [List.perm_iff_count]
    intro z
    simp only [List.count_append, List.count_cons, List.count_nil]
    omega
  have C2 := C.perm P2
  refine ⟨fun b o q => ?_, C2.base, C2.newG, fun b o q nf => ?_, fun b o q => ?_, C2.nd, C2.own⟩
  · have hb : b ≠ D0 := fun z => by rw [z, GD] at q; cases q
    rw [upd_ne hb]; exact C.sub b o q
  · have hb : b ≠ D0 := fun z => by
      subst z
      rcases (C1.own b (by simp)).2 with z | z
      · exact nf z
      · rw [z] at q; cases q
    rw [upd_ne hb]; exact C.prot b o q nf
  · by_cases hb : b = D0
    · subst hb; exact ⟨_, upd_same⟩
    · rw [upd_ne hb]; exact C.there b o q
/-- the same for a comprehension: the slots stay, temporaries of any kind -/
def WalksAt (K : PySem.W.Frag) (ρ : Rho) (tmp : List (V × R)) (J : It) (ds : List D) : Prop := ∀ c τ σ H, St K c ρ (tmp ++ τ) σ H →
  (∀ i x, ds[i]? = some x → J.go i H ∧ ∀ v H', J.yld i H v H' → St K c ρ ((v, .tm (.d x)) :: (tmp ++ τ)) σ H') ∧ J.stop ds.length H
def EIc (X : Cx) (tg : Expr) (ρ : Rho) (iter : Expr) (ds : List D) : Prop := ∀ c τ σ H, St X.K c ρ τ σ H → ∀ R : It → Hp → Prop,
  (∀ J H' tmp, WalksAt X.K ρ tmp J ds → St X.K c ρ (tmp ++ τ) σ H' → R J H') → piS X tg iter σ H R
theorem EI.c {X : Cx} {tg : Expr} {ρ : Rho} {iter : Expr} {ds : List D} (h : EI X tg ρ iter ds) : EIc X tg ρ iter ds := fun c τ σ H s R q => h c τ σ H s R fun J H' tmp _ wk s' => q J H' tmp (fun c τ σ H s => wk c ρ τ σ H s) s'
/-- [elt for x in iter if ..]: g tells what becomes of an item (none: left out) -/
theorem lcO_sem {α : Type} {xs : List α} {enc : α → D} {elt : Expr} {ifs : List Expr} {scope : Scope} {nm : Str} {pos' : Pos} {g : α → Option T} (n : Nat) (hi : EIc X (.Name nm pos') ρ iter (xs.map enc)) (hρ : ρ[n]? = some none)
    (he : ∀ s H C cl fp x, x ∈ xs → (∃ b, Ts (blkX X scope s H C cl fp) (ρ.set n (some (.d (enc x)))) ifs b ∧ (b = false → g x = none) ∧ (b = true → ∃ t, g x = some t ∧ E (blkX X scope s H C cl fp) (ρ.set n (some (.d (enc x)))) elt (.tm t))))
    (hz : xs.length ≤ 1000000) {c : Cst} {τ : List (V × R)} {σ : L2.St} {H : Hp} (s : St X.K c ρ τ σ H) {Q : VK} (q : ∀ v H', St X.K c ρ ((v, .tm (.lst (xs.filterMap g))) :: τ) σ H' → Q v H') :
    tLc (piS X (.Name nm pos') iter) (gName n) (fun σ H Q => ∀ s H0 C cl fp, tpS (blkX X scope s H0 C cl fp) ifs σ H Q) (fun σ H Q => ∀ s H0 C cl fp, teS (blkX X scope s H0 C cl fp) elt σ H Q) [n] σ H Q := by
  refine hi c τ σ H s _ fun J H1 tmp wk s1 D0 hD => ?_
  have s2 : St X.K c ρ (tmp ++ (.ref D0, .tm (.lst [])) :: τ) σ (upd H1 D0 (.lst [])) := (s1.new hD fun G _ => .lst upd_same .nil).perm List.perm_middle.symm
  refine ⟨fun i m H => m = xs.length - i ∧ i ≤ xs.length ∧ St X.K c ρ (tmp ++ (.ref D0, .tm (.lst ((xs.take i).filterMap g))) :: τ) σ H, ⟨_, rfl, Nat.zero_le _, by simpa using s2⟩, ?_⟩
  rintro i m H3 ⟨rfl, hi, s3⟩
  by_cases hlt : i < xs.length
  · obtain ⟨go, yl⟩ := (wk c _ σ H3 s3).1 i (enc xs[i]) (by rw [List.getElem?_map, List.getElem?_eq_getElem hlt]; rfl)
    refine .inr ⟨go, fun H' => St X.K c ρ (tmp ++ (.ref D0, .tm (.lst ((xs.take (i + 1)).filterMap g))) :: τ) σ H', fun H' s' => ⟨xs.length - (i + 1), by omega, rfl, hlt, s'⟩, fun v H4 y => ?_⟩
    have tk : (xs.take (i + 1)).filterMap g = (xs.take i).filterMap g ++ (g xs[i]).toList := by
      rw [List.take_succ_eq_append_getElem hlt, List.filterMap_append]
      congr 1
    have hwp : wipe ((wipe σ [n]).set n (some v)) [n] = wipe σ [n] := by rw [wipe_one, wipe_one, List.set_set, List.set_set]
    have s4 : St X.K c (ρ.set n (some (.d (enc xs[i])))) (tmp ++ (.ref D0, .tm (.lst ((xs.take i).filterMap g))) :: τ) ((wipe σ [n]).set n (some v)) H4 := (((yl v H4 y).any (x := none) hρ)).storeP hρ
    have ret : ∀ H, St X.K c (ρ.set n (some (.d (enc xs[i])))) (tmp ++ (.ref D0, .tm (.lst ((xs.take (i + 1)).filterMap g))) :: τ) ((wipe σ [n]).set n (some v)) H → St X.K c ρ (tmp ++ (.ref D0, .tm (.lst ((xs.take (i + 1)).filterMap g))) :: τ) σ H := fun H s5 => by
      have hnσ : n < σ.length := by
        have := (List.getElem?_eq_some_iff.mp hρ).1
        rw [s.len] at this; exact this
      have hz : ∀ q ∈ (tmp ++ (.ref D0, .tm (.lst ((xs.take (i + 1)).filterMap g))) :: τ : List (V × R)), ∀ p, q.2 ≠ .pl n p := fun q hq => by
        rcases List.mem_append.mp hq with h1 | h1
        · exact s3.noPl hρ q (List.mem_append_left _ h1)
        · rcases List.mem_cons.mp h1 with h1 | h1
          · subst h1; exact fun p e => nomatch e
          · exact s3.noPl hρ q (List.mem_append_right _ (List.mem_cons_of_mem _ h1))
      have s6 := s5.back (x := σ[n]) hρ hz
      have e : ((wipe σ [n]).set n (some v)).set n σ[n] = σ := by rw [wipe_one, List.set_set, List.set_set, List.set_getElem_self]
      rw [e] at s6
      exact s6
    have hx : xs[i] ∈ xs := List.getElem_mem hlt
    refine ⟨hwp, fun s H0 C cl fp => ?_⟩
    obtain ⟨b, hT, hno, hyes⟩ := he s H0 C cl fp _ hx
    refine hT c _ _ H4 s4 _ fun H5 s5 => ?_
    cases b with
    | false =>
      rw [hno rfl] at tk
      rw [if_neg Bool.false_ne_true]
      refine ret H5 ?_
      rw [tk]
      simpa using s5
    | true =>
      rw [if_pos rfl]
      obtain ⟨t, hg, _⟩ := hyes rfl
      rw [hg] at tk
      intro s' H0' C' cl' fp'
      obtain ⟨b', _, hno', hyes'⟩ := he s' H0' C' cl' fp' _ hx
      have hb' : b' = true := by
        cases b' with
        | true => rfl
        | false => have := hno' rfl; rw [hg] at this; cases this
      obtain ⟨t', hg', hE⟩ := hyes' hb'
      rw [hg] at hg'
      cases hg'
      refine hE c _ _ H5 s5 _ fun y H6 s6 => ?_
      have s7 : St X.K c (ρ.set n (some (.d (enc xs[i])))) ((y, .tm t) :: (.ref D0, .tm (.lst ((xs.take i).filterMap g))) :: (tmp ++ τ)) ((wipe σ [n]).set n (some v)) H6 := s6.perm (List.Perm.cons _ List.perm_middle)
      obtain ⟨acc, a1, a2, s8⟩ := s7.grow
      refine ⟨acc, a1, ?_, ret _ ?_⟩
      · have h1 : ((xs.take i).filterMap g).length ≤ (xs.take i).length := List.length_filterMap_le _ _
        have h2 : (xs.take i).length ≤ xs.length := by rw [List.length_take]; omega
        have h3 := sizeLine_eq
        omega
      · rw [tk]
        exact s8.perm List.perm_middle.symm
  · have e : i = xs.length := by omega
    subst e
    have z := (wk c _ σ H3 s3).2
    rw [List.length_map] at z
    refine .inl ⟨z, q _ _ ?_⟩
    rw [List.take_length] at s3
    exact s3.dropN
theorem e_lcOc {α : Type} {xs : List α} {enc : α → D} {elt : Expr} {ifs : List Expr} {scope : Scope} {k : Nat} {nm : Str} {pos' : Pos} {g : α → Option T} (n : Nat) (Y : Bx X W k) (hi : EIc X (.Name nm pos') ρ iter (xs.map enc)) (hρ : ρ[n]? = some none := by rfl)
    (he : ∀ s H C cl fp x, x ∈ xs → (∃ b, Ts (blkX X scope s H C cl fp) (ρ.set n (some (.d (enc x)))) ifs b ∧ (b = false → g x = none) ∧ (b = true → ∃ t, g x = some t ∧ E (blkX X scope s H C cl fp) (ρ.set n (some (.d (enc x)))) elt (.tm t))))
    (hz : xs.length ≤ 1000000) (ok : BlkOk X.N X.env.scope scope [(nm, n)] := by exact blkOk_by (by first | decide +kernel | exact Eq.refl true)) (hn : X.N[n]? = some nm := by rfl)
    (hL : ∀ s H C cl fp, Loc (blkX X scope s H C cl fp).env.scope nm ∧ ((blkX X scope s H C cl fp).fn nm = true ∨ (blkX X scope s H C cl fp).env.scope.names.lookup nm = some .local) := by intro _ _ _ _ _; first | exact ⟨Or.inl rfl, Or.inr rfl⟩ | exact ⟨Or.inr rfl, Or.inl rfl⟩)
    (hs : ∀ x, foldedSetIterable iter X.env x = pure x := by intro _; rfl) : E X ρ (.ListComp elt [⟨.Name nm pos', iter, ifs, 0⟩] scope pos) (.tm (.lst (xs.filterMap g))) := fun c τ σ H s Q q =>
  te_of (pe_lc (own := [(nm, n)]) (g := gName n) (tt := fun σ H Q => ∀ s H0 C cl fp, tpS (blkX X scope s H0 C cl fp) ifs σ H Q) (te := fun σ H Q => ∀ s H0 C cl fp, teS (blkX X scope s H0 C cl fp) elt σ H Q) Y.calm Y.nd piSS ok
    (fun s H C cl fp => pg_name (X := blkX X scope s H C cl fp) Y.nd hn (hL s H C cl fp).1 (hL s H C cl fp).2) (fun s H C cl fp => ⟨fun pins s0 σ H1 Q I h => h s H C cl fp pins s0 I⟩) (fun s H C cl fp => ⟨fun pins s0 σ H1 Q I h => h s H C cl fp pins s0 I⟩) hs) (lcO_sem n hi hρ he hz s q)
/-- y = [..] on one line -/
theorem s_lcOc {α : Type} {xs : List α} {enc : α → D} {elt : Expr} {ifs : List Expr} {scope : Scope} {k : Nat} {nm y : Str} {pos' py spos : Pos} {g : α → Option T} (m n : Nat) (Y : Bx X W k) (hi : EIc X (.Name nm pos') ρ iter (xs.map enc)) (hρ : ρ[n]? = some none)
    (he : ∀ s H C cl fp x, x ∈ xs → (∃ b, Ts (blkX X scope s H C cl fp) (ρ.set n (some (.d (enc x)))) ifs b ∧ (b = false → g x = none) ∧ (b = true → ∃ t, g x = some t ∧ E (blkX X scope s H C cl fp) (ρ.set n (some (.d (enc x)))) elt (.tm t))))
    (h : Φ.nx (ρ.set m (some (.lst (xs.filterMap g)))))
    (hz : xs.length ≤ 1000000) (ok : BlkOk X.N X.env.scope scope [(nm, n)] := by exact blkOk_by (by first | decide +kernel | exact Eq.refl true)) (hn : X.N[n]? = some nm := by rfl)
    (hL : ∀ s H C cl fp, Loc (blkX X scope s H C cl fp).env.scope nm ∧ ((blkX X scope s H C cl fp).fn nm = true ∨ (blkX X scope s H C cl fp).env.scope.names.lookup nm = some .local) := by intro _ _ _ _ _; first | exact ⟨Or.inl rfl, Or.inr rfl⟩ | exact ⟨Or.inr rfl, Or.inl rfl⟩)
    (hs : ∀ x, foldedSetIterable iter X.env x = pure x := by intro _; rfl)
    (hm : Nat.ble (m + 1) ρ.length = true := by rfl) (hy : X.N[m]? = some y := by rfl) (hyl : X.env.scope.names.lookup y = some .local := by rfl) (hk : X.env.scope.kind = .function := by rfl) (hl : (py.line == pos.line) = true := by rfl) (ha : (scope.names.any fun (n, k) => n == y && (k == .local || k == .cell)) = false := by rfl) :
    S1 X W ρ (.Assign [.Name y py] (.ListComp elt [⟨.Name nm pos', iter, ifs, 0⟩] scope pos) spos) Φ := fun c τ σ H tm s D P =>
  ts_of (ps_setLc (own := [(nm, n)]) (g := gName n) (tt := fun σ H Q => ∀ s H0 C cl fp, tpS (blkX X scope s H0 C cl fp) ifs σ H Q) (te := fun σ H Q => ∀ s H0 C cl fp, teS (blkX X scope s H0 C cl fp) elt σ H Q) Y.calm Y.nd hy hyl (sw_true hk hyl hl ha) piSS ok
    (fun s H C cl fp => pg_name (X := blkX X scope s H C cl fp) Y.nd hn (hL s H C cl fp).1 (hL s H C cl fp).2) (fun s H C cl fp => ⟨fun pins s0 σ H1 Q I h => h s H C cl fp pins s0 I⟩) (fun s H C cl fp => ⟨fun pins s0 σ H1 Q I h => h s H C cl fp pins s0 I⟩) hs)
    (lcO_sem (Q := fun x H1 => gName m x σ H1 D.nx) n hi hρ he hz s fun v H' s' => P.nx _ _ _ h (s'.store (Nat.le_of_ble_eq_true hm) tm))
theorem e_lcO {α : Type} {xs : List α} {enc : α → D} {elt : Expr} {ifs : List Expr} {scope : Scope} {k : Nat} {nm : Str} {pos' : Pos} {g : α → Option T} (n : Nat) (Y : Bx X W k) (hi : EI X (.Name nm pos') ρ iter (xs.map enc)) (hρ : ρ[n]? = some none := by rfl)
    (he : ∀ s H C cl fp x, x ∈ xs → (∃ b, Ts (blkX X scope s H C cl fp) (ρ.set n (some (.d (enc x)))) ifs b ∧ (b = false → g x = none) ∧ (b = true → ∃ t, g x = some t ∧ E (blkX X scope s H C cl fp) (ρ.set n (some (.d (enc x)))) elt (.tm t))))
    (hz : xs.length ≤ 1000000) (ok : BlkOk X.N X.env.scope scope [(nm, n)] := by exact blkOk_by (by first | decide +kernel | exact Eq.refl true)) (hn : X.N[n]? = some nm := by rfl)
    (hL : ∀ s H C cl fp, Loc (blkX X scope s H C cl fp).env.scope nm ∧ ((blkX X scope s H C cl fp).fn nm = true ∨ (blkX X scope s H C cl fp).env.scope.names.lookup nm = some .local) := by intro _ _ _ _ _; first | exact ⟨Or.inl rfl, Or.inr rfl⟩ | exact ⟨Or.inr rfl, Or.inl rfl⟩)
    (hs : ∀ x, foldedSetIterable iter X.env x = pure x := by intro _; rfl) : E X ρ (.ListComp elt [⟨.Name nm pos', iter, ifs, 0⟩] scope pos) (.tm (.lst (xs.filterMap g))) :=
  e_lcOc n Y hi.c hρ he hz ok hn hL hs
/-- y = [..] on one line -/
theorem s_lcO {α : Type} {xs : List α} {enc : α → D} {elt : Expr} {ifs : List Expr} {scope : Scope} {k : Nat} {nm y : Str} {pos' py spos : Pos} {g : α → Option T} (m n : Nat) (Y : Bx X W k) (hi : EI X (.Name nm pos') ρ iter (xs.map enc)) (hρ : ρ[n]? = some none)
    (he : ∀ s H C cl fp x, x ∈ xs → (∃ b, Ts (blkX X scope s H C cl fp) (ρ.set n (some (.d (enc x)))) ifs b ∧ (b = false → g x = none) ∧ (b = true → ∃ t, g x = some t ∧ E (blkX X scope s H C cl fp) (ρ.set n (some (.d (enc x)))) elt (.tm t))))
    (h : Φ.nx (ρ.set m (some (.lst (xs.filterMap g)))))
    (hz : xs.length ≤ 1000000) (ok : BlkOk X.N X.env.scope scope [(nm, n)] := by exact blkOk_by (by first | decide +kernel | exact Eq.refl true)) (hn : X.N[n]? = some nm := by rfl)
    (hL : ∀ s H C cl fp, Loc (blkX X scope s H C cl fp).env.scope nm ∧ ((blkX X scope s H C cl fp).fn nm = true ∨ (blkX X scope s H C cl fp).env.scope.names.lookup nm = some .local) := by intro _ _ _ _ _; first | exact ⟨Or.inl rfl, Or.inr rfl⟩ | exact ⟨Or.inr rfl, Or.inl rfl⟩)
    (hs : ∀ x, foldedSetIterable iter X.env x = pure x := by intro _; rfl)
    (hm : Nat.ble (m + 1) ρ.length = true := by rfl) (hy : X.N[m]? = some y := by rfl) (hyl : X.env.scope.names.lookup y = some .local := by rfl) (hk : X.env.scope.kind = .function := by rfl) (hl : (py.line == pos.line) = true := by rfl) (ha : (scope.names.any fun (n, k) => n == y && (k == .local || k == .cell)) = false := by rfl) :
    S1 X W ρ (.Assign [.Name y py] (.ListComp elt [⟨.Name nm pos', iter, ifs, 0⟩] scope pos) spos) Φ :=
  s_lcOc m n Y hi.c hρ he h hz ok hn hL hs hm hy hyl hk hl ha
/-- .. without tests: each item's f -/
theorem e_lc {α : Type} {xs : List α} {enc : α → D} {elt : Expr} {scope : Scope} {k : Nat} {nm : Str} {pos' : Pos} {f : α → T} (n : Nat) (Y : Bx X W k) (hi : EI X (.Name nm pos') ρ iter (xs.map enc)) (hρ : ρ[n]? = some none := by rfl)
    (he : ∀ s H C cl fp x, x ∈ xs → E (blkX X scope s H C cl fp) (ρ.set n (some (.d (enc x)))) elt (.tm (f x)))
    (hz : xs.length ≤ 1000000) (ok : BlkOk X.N X.env.scope scope [(nm, n)] := by exact blkOk_by (by first | decide +kernel | exact Eq.refl true)) (hn : X.N[n]? = some nm := by rfl)
    (hL : ∀ s H C cl fp, Loc (blkX X scope s H C cl fp).env.scope nm ∧ ((blkX X scope s H C cl fp).fn nm = true ∨ (blkX X scope s H C cl fp).env.scope.names.lookup nm = some .local) := by intro _ _ _ _ _; first | exact ⟨Or.inl rfl, Or.inr rfl⟩ | exact ⟨Or.inr rfl, Or.inl rfl⟩)
    (hs : ∀ x, foldedSetIterable iter X.env x = pure x := by intro _; rfl) : E X ρ (.ListComp elt [⟨.Name nm pos', iter, [], 0⟩] scope pos) (.tm (.lst (xs.map f))) := by
  have := e_lcO (g := fun x => some (f x)) n Y hi hρ (fun s H C cl fp x hx => ⟨true, ts_nil, (fun h => by cases h), fun _ => ⟨_, rfl, he s H C cl fp x hx⟩⟩) hz ok hn hL hs (pos := pos)
  have e : xs.filterMap (fun x => some (f x)) = xs.map f := by
    rw [← List.filterMap_eq_map]; rfl
  rwa [e] at this
/-- .. with a test: the items that pass it -/
theorem e_lcF {α : Type} {xs : List α} {enc : α → D} {elt c0 : Expr} {scope : Scope} {k : Nat} {nm : Str} {pos' : Pos} {f : α → T} {t : α → Bool} (n : Nat) (Y : Bx X W k) (hi : EI X (.Name nm pos') ρ iter (xs.map enc)) (hρ : ρ[n]? = some none := by rfl)
    (ht : ∀ s H C cl fp x, x ∈ xs → Tt (blkX X scope s H C cl fp) (ρ.set n (some (.d (enc x)))) c0 (t x))
    (he : ∀ s H C cl fp x, x ∈ xs → t x = true → E (blkX X scope s H C cl fp) (ρ.set n (some (.d (enc x)))) elt (.tm (f x)))
    (hz : xs.length ≤ 1000000) (ok : BlkOk X.N X.env.scope scope [(nm, n)] := by exact blkOk_by (by first | decide +kernel | exact Eq.refl true)) (hn : X.N[n]? = some nm := by rfl)
    (hL : ∀ s H C cl fp, Loc (blkX X scope s H C cl fp).env.scope nm ∧ ((blkX X scope s H C cl fp).fn nm = true ∨ (blkX X scope s H C cl fp).env.scope.names.lookup nm = some .local) := by intro _ _ _ _ _; first | exact ⟨Or.inl rfl, Or.inr rfl⟩ | exact ⟨Or.inr rfl, Or.inl rfl⟩)
    (hs : ∀ x, foldedSetIterable iter X.env x = pure x := by intro _; rfl) : E X ρ (.ListComp elt [⟨.Name nm pos', iter, [c0], 0⟩] scope pos) (.tm (.lst ((xs.filter t).map f))) := by
  have := e_lcO (g := fun x => if t x = true then some (f x) else none) n Y hi hρ (fun s H C cl fp x hx => ⟨t x, ts_one (ht s H C cl fp x hx), fun h => by rw [h]; rfl, fun h => ⟨_, by rw [h]; rfl, he s H C cl fp x hx h⟩⟩) hz ok hn hL hs (pos := pos)
  have e : xs.filterMap (fun x => if t x = true then some (f x) else none) = (xs.filter t).map f := by
    clear this he ht hz hi
    induction xs with
    | nil => rfl
    | cons x xs ih =>
      rw [List.filterMap_cons, List.filter_cons]
      by_cases h : t x = true
      · simp [h, ih]
      · simp [h, ih]
  rwa [e] at this
theorem fm_map {α β : Type} {xs : List α} {f : α → β} : xs.filterMap (fun x => some (f x)) = xs.map f := by
  rw [← List.filterMap_eq_map]; rfl
theorem fm_filter {α β : Type} {f : α → β} {t : α → Bool} : ∀ {xs : List α}, xs.filterMap (fun x => if t x = true then some (f x) else none) = (xs.filter t).map f
  | [] => rfl
  | x :: xs => by
    rw [List.filterMap_cons, List.filter_cons, fm_filter (xs := xs)]
    by_cases h : t x = true
    · simp [h]
    · simp [h]
/-- y = [elt for x in iter] on one line -/
theorem s_lc {α : Type} {xs : List α} {enc : α → D} {elt : Expr} {scope : Scope} {k : Nat} {nm y : Str} {pos' py spos : Pos} {f : α → T} (m n : Nat) (Y : Bx X W k) (hi : EI X (.Name nm pos') ρ iter (xs.map enc)) (hρ : ρ[n]? = some none)
    (he : ∀ s H C cl fp x, x ∈ xs → E (blkX X scope s H C cl fp) (ρ.set n (some (.d (enc x)))) elt (.tm (f x)))
    (h : Φ.nx (ρ.set m (some (.lst (xs.map f)))))
    (hz : xs.length ≤ 1000000) (ok : BlkOk X.N X.env.scope scope [(nm, n)] := by exact blkOk_by (by first | decide +kernel | exact Eq.refl true)) (hn : X.N[n]? = some nm := by rfl)
    (hL : ∀ s H C cl fp, Loc (blkX X scope s H C cl fp).env.scope nm ∧ ((blkX X scope s H C cl fp).fn nm = true ∨ (blkX X scope s H C cl fp).env.scope.names.lookup nm = some .local) := by intro _ _ _ _ _; first | exact ⟨Or.inl rfl, Or.inr rfl⟩ | exact ⟨Or.inr rfl, Or.inl rfl⟩)
    (hs : ∀ x, foldedSetIterable iter X.env x = pure x := by intro _; rfl)
    (hm : Nat.ble (m + 1) ρ.length = true := by rfl) (hy : X.N[m]? = some y := by rfl) (hyl : X.env.scope.names.lookup y = some .local := by rfl) (hk : X.env.scope.kind = .function := by rfl) (hl : (py.line == pos.line) = true := by rfl) (ha : (scope.names.any fun (n, k) => n == y && (k == .local || k == .cell)) = false := by rfl) :
    S1 X W ρ (.Assign [.Name y py] (.ListComp elt [⟨.Name nm pos', iter, [], 0⟩] scope pos) spos) Φ :=
  s_lcO (g := fun x => some (f x)) m n Y hi hρ (fun s H C cl fp x hx => ⟨true, ts_nil, (fun h => by cases h), fun _ => ⟨_, rfl, he s H C cl fp x hx⟩⟩) (by rw [fm_map]; exact h) hz ok hn hL hs hm hy hyl hk hl ha
/-- .. with a test -/
theorem s_lcF {α : Type} {xs : List α} {enc : α → D} {elt c0 : Expr} {scope : Scope} {k : Nat} {nm y : Str} {pos' py spos : Pos} {f : α → T} {t : α → Bool} (m n : Nat) (Y : Bx X W k) (hi : EI X (.Name nm pos') ρ iter (xs.map enc)) (hρ : ρ[n]? = some none)
    (ht : ∀ s H C cl fp x, x ∈ xs → Tt (blkX X scope s H C cl fp) (ρ.set n (some (.d (enc x)))) c0 (t x))
    (he : ∀ s H C cl fp x, x ∈ xs → t x = true → E (blkX X scope s H C cl fp) (ρ.set n (some (.d (enc x)))) elt (.tm (f x)))
    (h : Φ.nx (ρ.set m (some (.lst ((xs.filter t).map f)))))
    (hz : xs.length ≤ 1000000) (ok : BlkOk X.N X.env.scope scope [(nm, n)] := by exact blkOk_by (by first | decide +kernel | exact Eq.refl true)) (hn : X.N[n]? = some nm := by rfl)
    (hL : ∀ s H C cl fp, Loc (blkX X scope s H C cl fp).env.scope nm ∧ ((blkX X scope s H C cl fp).fn nm = true ∨ (blkX X scope s H C cl fp).env.scope.names.lookup nm = some .local) := by intro _ _ _ _ _; first | exact ⟨Or.inl rfl, Or.inr rfl⟩ | exact ⟨Or.inr rfl, Or.inl rfl⟩)
    (hs : ∀ x, foldedSetIterable iter X.env x = pure x := by intro _; rfl)
    (hm : Nat.ble (m + 1) ρ.length = true := by rfl) (hy : X.N[m]? = some y := by rfl) (hyl : X.env.scope.names.lookup y = some .local := by rfl) (hk : X.env.scope.kind = .function := by rfl) (hl : (py.line == pos.line) = true := by rfl) (ha : (scope.names.any fun (n, k) => n == y && (k == .local || k == .cell)) = false := by rfl) :
    S1 X W ρ (.Assign [.Name y py] (.ListComp elt [⟨.Name nm pos', iter, [c0], 0⟩] scope pos) spos) Φ :=
  s_lcO (g := fun x => if t x = true then some (f x) else none) m n Y hi hρ (fun s H C cl fp x hx => ⟨t x, ts_one (ht s H C cl fp x hx), fun h => by rw [h]; rfl, fun h => ⟨_, by rw [h]; rfl, he s H C cl fp x hx h⟩⟩) (by rw [fm_filter]; exact h) hz ok hn hL hs hm hy hyl hk hl ha
theorem e_lcC {α : Type} {xs : List α} {enc : α → D} {elt : Expr} {scope : Scope} {k : Nat} {nm : Str} {pos' : Pos} {f : α → T} (n : Nat) (Y : Bx X W k) (hi : EIc X (.Name nm pos') ρ iter (xs.map enc)) (hρ : ρ[n]? = some none := by rfl)
    (he : ∀ s H C cl fp x, x ∈ xs → E (blkX X scope s H C cl fp) (ρ.set n (some (.d (enc x)))) elt (.tm (f x)))
    (hz : xs.length ≤ 1000000) (ok : BlkOk X.N X.env.scope scope [(nm, n)] := by exact blkOk_by (by first | decide +kernel | exact Eq.refl true)) (hn : X.N[n]? = some nm := by rfl)
    (hL : ∀ s H C cl fp, Loc (blkX X scope s H C cl fp).env.scope nm ∧ ((blkX X scope s H C cl fp).fn nm = true ∨ (blkX X scope s H C cl fp).env.scope.names.lookup nm = some .local) := by intro _ _ _ _ _; first | exact ⟨Or.inl rfl, Or.inr rfl⟩ | exact ⟨Or.inr rfl, Or.inl rfl⟩)
    (hs : ∀ x, foldedSetIterable iter X.env x = pure x := by intro _; rfl) : E X ρ (.ListComp elt [⟨.Name nm pos', iter, [], 0⟩] scope pos) (.tm (.lst (xs.map f))) := by
  have := e_lcOc (g := fun x => some (f x)) n Y hi hρ (fun s H C cl fp x hx => ⟨true, ts_nil, (fun h => by cases h), fun _ => ⟨_, rfl, he s H C cl fp x hx⟩⟩) hz ok hn hL hs (pos := pos)
  rwa [fm_map] at this
end
end DL
namespace DL
open PySem PySem.Spec PyProof.Rows L2

structure Spec where
  α : Type
  enc : α → List D
  pre : α → Prop
  post : α → T → Prop
  exc : α → Value → Prop := fun _ _ => False
structure Aft (G H G' H' : Hp) : Prop where
  same : Same H H'
  sub : Same G' H'
  ext : Same G G'
  new : ∀ a o, G' a = some o → (∃ o', G a = some o') ∨ H a = none
def SpD (K : PySem.W.Frag) (S : Spec) : Sp := fun vs H Q E => ∃ (G : Hp) (x : S.α), Same G H ∧ Drs K G vs (S.enc x) ∧ S.pre x ∧
  (∀ t, S.post x t → ∀ v H' G' fp, Aft G H G' H' → Own K G' H' v t fp → fp.Nodup → (∀ a ∈ fp, G' a = none ∧ H a = none) → Q v H') ∧
  (∀ cls, S.exc x cls → ∀ H', Same H H' → E cls none H')
/-- the def called nm keeps S, at level k -/
def Kn (P : Program) (w : World) (K : PySem.W.Frag) (mg : Str → Option Value) (base : Heap) (nm : Str) (k : Nat) (S : Spec) : Prop :=
  ∃ (f : Addr) (fd : FuncData) (ps : List Str), FnOk P w K mg base (L2.CX P w) k f fd ps (SpD K S) ∧ mg nm = some (.ref f) ∧ PySem.W.keepIn K (.ref f) = true ∧ Binds K fd ps []
theorem Kn.mono {P : Program} {w : World} {K : PySem.W.Frag} {mg : Str → Option Value} {base : Heap} {nm : Str} {j k : Nat} {S : Spec} (h : Kn P w K mg base nm j S) (hk : j ≤ k) : Kn P w K mg base nm k S :=
  let ⟨f, fd, ps, a, b⟩ := h; ⟨f, fd, ps, a.mono hk, b⟩

section
variable {X : Cx} {W : WX} {ρ : Rho} {Φ : Ph} {e : Expr} {es : List Expr} {ts : List T} {t : T} {nm : Str} {k j : Nat} {S : Spec} {pos p : Pos}
theorem Owns.ds {K : PySem.W.Frag} {G H : Hp} {vs : List V} {ds : List D} {f : List Addr} : ∀ {ts : List T}, ts = ds.map T.d → Owns K G H vs ts f → Drs K G vs ds ∧ f = [] := fun {ts} e h => by
  subst e
  induction ds generalizing vs f with
  | nil => cases h; exact ⟨.nil, rfl⟩
  | cons d ds ih =>
    cases h with | cons h1 h2 =>
    obtain ⟨q1, q2⟩ := h1.is_d
    obtain ⟨q3, q4⟩ := ih h2
    exact ⟨.cons q1 q3, by rw [q2, q4]; rfl⟩
/-- the state behind a call -/
theorem St.after {K : PySem.W.Frag} {c : Cst} {σ : L2.St} {H H' G G' : Hp} {fs ft fp : List Addr} {τ : List (V × R)} {v : V} {t : T} (C : Core c G H (fs ++ ft)) (L : Slots K G H ρ σ fs) (M : Temps K G H ρ σ τ ft)
    (A : Aft G H G' H') (w : Own K G' H' v t fp) (nd : fp.Nodup) (fr : ∀ a ∈ fp, G' a = none ∧ H a = none) : St K c ρ ((v, .tm t) :: τ) σ H' := by
  have th : ∀ a ∈ fs ++ ft, ∃ o, H a = some o := fun a m => by
    rcases List.mem_append.mp m with m | m
    · exact L.there a m
    · exact M.there a m
  have C' : Core c G' H' (fs ++ (fp ++ ft)) := by
    have P1 : (fs ++ (fp ++ ft)).Perm (fp ++ (fs ++ ft)) := by
      rw [List.perm_iff_count]; intro z; simp only [List.count_append]; omega
    refine ⟨A.sub, C.base.trans A.ext, fun a o q => ?_, fun a o e n => A.same a o (C.prot a o e n), fun a o e => let ⟨o', q⟩ := C.there a o e; ⟨o', A.same a o' q⟩, ?_, fun a m => ?_⟩
    · rcases A.new a o q with ⟨o', z⟩ | z
      · exact C.newG a o' z
      · refine .inr (.inl ?_)
        cases y : c.H0 a with
        | none => rfl
        | some u => obtain ⟨o', y'⟩ := C.there a u y; rw [z] at y'; cases y'
    · refine P1.nodup_iff.mpr (List.nodup_append.mpr ⟨nd, C.nd, fun a m b m' e => ?_⟩)
      subst e
      obtain ⟨o, q⟩ := th a m'
      rw [(fr a m).2] at q; cases q
    · rcases List.mem_append.mp (P1.mem_iff.mp m) with m | m
      · refine ⟨(fr a m).1, .inr ?_⟩
        cases y : c.H0 a with
        | none => rfl
        | some u => obtain ⟨o', y'⟩ := C.there a u y; rw [(fr a m).2] at y'; cases y'
      · obtain ⟨g1, g2⟩ := C.own a m
        obtain ⟨o, q⟩ := th a m
        refine ⟨?_, g2⟩
        cases y : G' a with
        | none => rfl
        | some u =>
          rcases A.new a u y with ⟨o', z⟩ | z
          · rw [g1] at z; cases z
          · rw [q] at z; cases z
  exact ⟨G', fs, fp ++ ft, C', L.keep A.ext (.of A.same), .tm w (M.keep A.ext A.same)⟩
/-- a call, with its ways out -/
theorem call_gen (F : Kn X.prog X.w X.K X.mg X.base nm k S) (hr : Room k X.A) (tk : Takes X W) (ha : EA X ρ (e :: es) ts) (x : S.α) (hts : ts = (S.enc x).map T.d) (hpre : S.pre x) {c : Cst} {τ : List (V × R)} {σ : L2.St} {H : Hp} (s : St X.K c ρ τ σ H) {Q : VK}
    (hQ : ∀ t, S.post x t → ∀ v H', St X.K c ρ ((v, .tm t) :: τ) σ H' → Q v H') (hE : ∀ cls, S.exc x cls → ∀ H', St X.K c ρ τ σ H' → W cls none σ H') (hg : Gl X nm := by rfl) (hdb : (nm == ("__debug__" : Str)) = false := by decide)
    (he : starEach (e :: es) X.env = (false, eval e X.env) :: starEach es X.env := by rfl) (hpl : (backTo pos (starEach es X.env)).any (·.1) = false := by rfl) : teS X (.Call (.Name nm p) (e :: es) [] pos) σ H Q := by
  obtain ⟨f, fd, ps, F, hm, hk, hb⟩ := F
  refine te_of (pe_callS (E := WE W) F hr hg hm hk hb (fun σ => passAt tk σ) paS hdb he hpl) (ha c τ σ H s _ fun vs H1 s1 => ?_)
  obtain ⟨G, fs, fa, ft, C, L, A, M⟩ := s1
  obtain ⟨dr, fa0⟩ := Owns.ds hts A
  subst fa0
  refine ⟨G, x, C.sub, dr, hpre, fun t ht v H' G' fp af w nd fr => hQ t ht v H' ?_, fun cls hc H' sm => hE cls hc H' ?_⟩
  · exact St.after (by simpa using C) L M af w nd fr
  · exact St.same ⟨G, fs, ft, by simpa using C, L, M⟩ sm
/-- a call that raises nothing and hands back t -/
theorem e_call (F : Kn X.prog X.w X.K X.mg X.base nm k S) (hr : Room k X.A) (ha : EA X ρ (e :: es) ts) (x : S.α) (hts : ts = (S.enc x).map T.d) (hpre : S.pre x) (hp : ∀ t', S.post x t' → t' = t) (hx : ∀ cls, ¬ S.exc x cls) (hg : Gl X nm := by rfl) (hdb : (nm == ("__debug__" : Str)) = false := by decide)
    (he : starEach (e :: es) X.env = (false, eval e X.env) :: starEach es X.env := by rfl) (hpl : (backTo pos (starEach es X.env)).any (·.1) = false := by rfl) : E X ρ (.Call (.Name nm p) (e :: es) [] pos) (.tm t) := fun c τ σ H s Q q =>
  call_gen (W := fun _ _ _ _ => False) F hr takes0 ha x hts hpre s (fun t' ht v H' s' => q v H' (hp t' ht ▸ s')) (fun cls h => (hx cls h).elim) hg hdb he hpl
/-- x = f(..) -/
theorem s_call (n : Nat) {x0 : Str} {pos' : Pos} (Y : Bx X W j) (F : Kn X.prog X.w X.K X.mg X.base nm k S) (hr : Room k X.A) (ha : EA X ρ (e :: es) ts) (x : S.α) (hts : ts = (S.enc x).map T.d) (hpre : S.pre x)
    (hp : ∀ t, S.post x t → Φ.nx (ρ.set n (some t))) (hx : ∀ cls, S.exc x cls → Φ.ex cls ρ) (hρ : Nat.ble (n + 1) ρ.length = true := by rfl) (hi : X.N[n]? = some x0 := by rfl) (hl : Loc X.env.scope x0 := by first | exact Or.inl rfl | exact Or.inr rfl)
    (hf : X.fn x0 = true ∨ X.env.scope.names.lookup x0 = some .local := by first | exact .inl rfl | exact .inr rfl | assumption) (hg : Gl X nm := by rfl) (hdb : (nm == ("__debug__" : Str)) = false := by decide)
    (he : starEach (e :: es) X.env = (false, eval e X.env) :: starEach es X.env := by rfl) (hpl : (backTo pos (starEach es X.env)).any (·.1) = false := by rfl) {spos : Pos} (hs : swapsWith (.Call (.Name nm p) (e :: es) [] pos) (some (.Name x0 pos')) spos.line X.env = pure false := by rfl) :
    S1 X W ρ (.Assign [.Name x0 pos'] (.Call (.Name nm p) (e :: es) [] pos) spos) Φ := fun c τ σ H tm s D P =>
  ts_of (ps_set Y.nd hi hl peS hs hf) (call_gen F hr Y.takes ha x hts hpre s (fun t ht v H' s' => P.nx _ _ _ (hp t ht) (s'.store (Nat.le_of_ble_eq_true hρ) tm)) (fun cls h H' s' => P.ex _ _ _ _ (hx cls h) s') hg hdb he hpl)
/-- f(..) alone -/
theorem s_callE (Y : Bx X W j) (F : Kn X.prog X.w X.K X.mg X.base nm k S) (hr : Room k X.A) (ha : EA X ρ (e :: es) ts) (x : S.α) (hts : ts = (S.enc x).map T.d) (hpre : S.pre x)
    (hp : ∀ t, S.post x t → Φ.nx ρ) (hx : ∀ cls, S.exc x cls → Φ.ex cls ρ) {spos : Pos} (hs : swapsWith (.Call (.Name nm p) (e :: es) [] pos) none spos.line X.env = pure false := by rfl) (hg : Gl X nm := by rfl) (hdb : (nm == ("__debug__" : Str)) = false := by decide)
    (he : starEach (e :: es) X.env = (false, eval e X.env) :: starEach es X.env := by rfl) (hpl : (backTo pos (starEach es X.env)).any (·.1) = false := by rfl) : S1 X W ρ (.Expr (.Call (.Name nm p) (e :: es) [] pos) spos) Φ := fun c τ σ H tm s D P =>
  ts_of (ps_expr peS hs) (call_gen F hr Y.takes ha x hts hpre s (fun t ht v H' s' => P.nx _ _ _ (hp t ht) s'.pop) (fun cls h H' s' => P.ex _ _ _ _ (hx cls h) s') hg hdb he hpl)
/-- return f(..) -/
theorem s_callR (Y : Bx X W j) (F : Kn X.prog X.w X.K X.mg X.base nm k S) (hr : Room k X.A) (ha : EA X ρ (e :: es) ts) (x : S.α) (hts : ts = (S.enc x).map T.d) (hpre : S.pre x)
    (hp : ∀ t, S.post x t → Φ.rt t ρ) (hx : ∀ cls, S.exc x cls → Φ.ex cls ρ) {spos : Pos} (hg : Gl X nm := by rfl) (hdb : (nm == ("__debug__" : Str)) = false := by decide)
    (he : starEach (e :: es) X.env = (false, eval e X.env) :: starEach es X.env := by rfl) (hpl : (backTo pos (starEach es X.env)).any (·.1) = false := by rfl) : S1 X W ρ (.Return (some (.Call (.Name nm p) (e :: es) [] pos)) spos) Φ := fun c τ σ H tm s D P =>
  ts_of (ps_ret peS) (call_gen F hr Y.takes ha x hts hpre s (fun t ht v H' s' => P.rt _ _ _ _ _ (hp t ht) s') (fun cls h H' s' => P.ex _ _ _ _ (hx cls h) s') hg hdb he hpl)
end

def rho0 (N : List Str) (ds : List D) : Rho := ds.map (fun d => some (T.d d)) ++ List.replicate (N.length - ds.length) none
theorem slots_start {K : PySem.W.Frag} {G H : Hp} : ∀ {vs : List V} {ds : List D} {m : Nat}, Drs K G vs ds → Slots K G H (ds.map (fun d => some (T.d d)) ++ List.replicate m none) (vs.map some ++ List.replicate m none) []
  | [], [], 0, _ => .nil
  | [], [], m + 1, h => by
    rw [List.replicate_succ, List.replicate_succ]
    exact .non (slots_start (vs := []) (ds := []) (m := m) h)
  | v :: vs, d :: ds, m, h => by
    cases h with | cons h1 h2 =>
    have := Slots.som (H := H) (Own.d h1) (slots_start (m := m) h2)
    simpa using this
  | [], _ :: _, _, h => by cases h
  | _ :: _, [], _, h => by cases h
section
variable {P : Program} {w : World} {K : PySem.W.Frag} {mg : Str → Option Value} {base : Heap}
theorem fok_of {x qual : Str} {st : Stmt} {f : Addr} {fd : FuncData} {N ps : List Str} {k : Nat} {S : Spec} (F : Fun K x qual st f fd) (Sc : FnScope N ps (defScope st)) (len : ∀ x : S.α, S.pre x → (S.enc x).length = ps.length)
    (body : ∀ (cdv : Value) (A : Around) (outer : List Env) (s : Shared) (H : Hp) (E : XK) (W : WX), Bx (cxOf (L2.CX P w) P w K mg base N qual (defScope st) f cdv A outer s H E) W k → ∀ x : S.α, S.pre x →
      DL.S (cxOf (L2.CX P w) P w K mg base N qual (defScope st) f cdv A outer s H E) W (rho0 N (S.enc x)) (defBody st) ⟨fun _ => S.post x (.d .non), fun t _ => S.post x t, fun _ => False, fun _ => False, fun cls _ => S.exc x cls⟩) :
    FnOk P w K mg base (L2.CX P w) (k + 1) f fd ps (SpD K S) := by
  refine F.okX Sc (fun vs H Q E h => ?_) (fun cdv A outer s H vs Q E hr h => ?_)
  · obtain ⟨G, y, _, dr, pr, _⟩ := h
    rw [dr.len]; exact len y pr
  · obtain ⟨G, y, sb, dr, pr, hQ, hE⟩ := h
    refine ⟨tbS _ (defBody st), pbS, ?_⟩
    have B : Bx (cxOf (L2.CX P w) P w K mg base N qual (defScope st) f cdv A outer s H E) (fun cls d _ H => E cls d H) k := ⟨rfl, Sc.nd, takes_of rfl rfl rfl rfl, passes_of rfl, hr⟩
    refine body cdv A outer s H E _ B y pr ⟨H, G, []⟩ [] _ H TmOnly.nil ?_ _ ⟨fun ρ σ' H' q s' => ?_, fun t ρ v σ' H' q s' => ?_, fun _ _ _ q => q.elim, fun _ _ _ q => q.elim, fun cls ρ σ' H' q s' => ?_⟩
    · refine ⟨G, [], [], ⟨sb, Same.refl _, fun a o q => .inl ⟨o, q⟩, fun a o q _ => q, fun a o q => ⟨o, q⟩, List.nodup_nil, fun a m => nomatch m⟩, ?_, .nil⟩
      have := slots_start (K := K) (G := G) (H := H) (m := N.length - vs.length) dr
      unfold rho0 L2.start
      rw [← dr.len]
      exact this
    · obtain ⟨G', fs, ft, C, L, M⟩ := s'.push (v := .non) (x := .non) fun _ => .non
      cases M with | tm h1 h2 =>
      cases h2
      refine hQ _ q _ H' G' _ ⟨fun a o e => C.prot a o e (fun z => nomatch z), C.sub, C.base, fun a o e => ?_⟩ h1 ((List.sublist_append_right fs _).nodup (by simpa using C.nd)) fun a m => ?_
      · rcases C.newG a o e with z | z | z
        · exact .inl z
        · exact .inr z
        · cases z
      · obtain ⟨z1, z2⟩ := C.own a (by simp [m])
        exact ⟨z1, z2.resolve_left fun y => nomatch y⟩
    · obtain ⟨G', fs, ft, C, L, M⟩ := s'
      cases M with | tm h1 h2 =>
      cases h2
      refine hQ _ q _ H' G' _ ⟨fun a o e => C.prot a o e (fun z => nomatch z), C.sub, C.base, fun a o e => ?_⟩ h1 ((List.sublist_append_right fs _).nodup (by simpa using C.nd)) fun a m => ?_
      · rcases C.newG a o e with z | z | z
        · exact .inl z
        · exact .inr z
        · cases z
      · obtain ⟨z1, z2⟩ := C.own a (by simp [m])
        exact ⟨z1, z2.resolve_left fun y => nomatch y⟩
    · obtain ⟨G', fs, ft, C, L, M⟩ := s'
      exact hE cls q H' fun a o e => C.prot a o e fun z => nomatch z
theorem kn_of {x qual : Str} {st : Stmt} {f : Addr} {fd : FuncData} {N ps : List Str} {k : Nat} {S : Spec} (F : Fun K x qual st f fd) (hm : mg x = some (.ref f)) (hb : Binds K fd ps []) (Sc : FnScope N ps (defScope st)) (len : ∀ x : S.α, S.pre x → (S.enc x).length = ps.length)
    (body : ∀ (cdv : Value) (A : Around) (outer : List Env) (s : Shared) (H : Hp) (E : XK) (W : WX), Bx (cxOf (L2.CX P w) P w K mg base N qual (defScope st) f cdv A outer s H E) W k → ∀ x : S.α, S.pre x →
      DL.S (cxOf (L2.CX P w) P w K mg base N qual (defScope st) f cdv A outer s H E) W (rho0 N (S.enc x)) (defBody st) ⟨fun _ => S.post x (.d .non), fun t _ => S.post x t, fun _ => False, fun _ => False, fun cls _ => S.exc x cls⟩) :
    Kn P w K mg base x (k + 1) S :=
  ⟨f, fd, ps, fok_of F Sc len body, hm, F.kp, hb⟩
end

section
variable {X : Cx} {W : WX} {ρ : Rho} {Φ : Ph} {k : Nat}
/-- raise X('..'), X an own class over built-in ones without its own __init__ -/
theorem s_raise {C : Addr} {bmB : List Value} {B newId initId : String} {x m : Str} {j : Nat} {p p2 pos pos2 : Pos} (Y : Bx X W k) (F : ExcBaseFacts B newId initId bmB) (q : PySem.W.excIn X.K C bmB newId = true) (gC : X.mg x = some (.ref C)) (kC : PySem.W.keepIn X.K (.ref C) = true) (r : Raises X (.ref C))
    (h : Φ.ex (.ref C) ρ) (hg : Gl X x := by rfl) (hdb : (x == ("__debug__" : Str)) = false := by decide) : S1 X W ρ (.Raise (some (.Call (.Name x p) [.Constant (.str m) j p2] [] pos)) none pos2) Φ := fun c τ σ H tm s D P =>
  ts_of (ps_raise Y.calm Y.takes (pmk_own F q gC kC r hg hdb)) (P.ex _ _ _ _ h s)
end
section
variable {X : Cx} {ρ : Rho} {e tg : Expr} {n : Nat} {ds : List D}
/-- over a list that a slot owns, its items data -/
theorem i_listP {p : List Nat} (he : E X ρ e (.pl n p)) (hv : view ρ (.pl n p) = some (.lst (ds.map T.d))) : EIc X tg ρ e ds := fun c τ σ H s R q => pi_of (pi_list peS) (he c τ σ H s _ fun v H1 s1 => by
  obtain ⟨G0, f0, sb0, w0, _⟩ := s1.top hv
  obtain ⟨a, vs0, g0, e1, _, e2, e3⟩ := w0.is_lst
  refine ⟨a, e1, ⟨vs0, SqL.of e2⟩, q _ _ [(v, .pl n p)] (fun c τ σ H s => ?_) s1⟩
  obtain ⟨G, fs, ft, C, L, M⟩ := s
  cases M with
  | @pl _ _ i p u t0 s0 f a1 a2 a3 a4 h2 =>
  have e' : T.at p t0 = some (.lst (ds.map T.d)) := by simpa [view, a2] using hv
  obtain ⟨v0, l1, f0', l2, b1, b2, b3, _⟩ := L.get a2
  rw [a1] at b1
  cases b1
  obtain ⟨u0, m1, f', m2, c1, c2, c3, _⟩ := b3.focus e'
  rw [a4] at c2
  cases c2
  obtain ⟨a', vs, g, f1, f2, f3, f4⟩ := c3.is_lst
  rw [e1] at f1
  cases f1
  obtain ⟨dr, _⟩ := Owns.ds rfl f4
  refine ⟨fun i x hx => ?_, vs, SqL.of f3, Nat.le_of_eq dr.len⟩
  obtain ⟨u0, g1, g2⟩ := dr.get hx
  refine ⟨⟨vs, u0, SqL.of f3, g1⟩, fun v' H' ⟨eH, y⟩ => ?_⟩
  subst eH
  have y1 := y vs (SqL.of f3)
  rw [g1] at y1
  cases y1
  exact ⟨G, fs, [] ++ ft, C, L, .tm (.d g2) (.pl a1 a2 a3 a4 h2)⟩)
end
end DL
namespace DL
open PySem PySem.Spec PyProof.Rows L2

section
variable {X : Cx} {W : WX} {ρ : Rho} {Φ : Ph} {a b e o : Expr} {es : List Expr} {r r1 r2 : R} {t t1 t2 : T} {ts us : List T} {pos p apos cpos : Pos} {i j : Int} {nm : Str} {x y : D} {ds : List D} {n m k : Nat}
/-- a built-in of one argument -/
theorem e_bi {id : String} {rr : List V → Hp → VK → Prop} (hc : CallR X (.builtin id) rr) (hm : X.mg nm = none) (he : E X ρ a r1) (hv : bootBuiltins nm = some (.builtin id))
    (f : ∀ c τ σ H v, St X.K c ρ ((v, r1) :: τ) σ H → ∀ Q : VK, (∀ w H', St X.K c ρ ((w, r) :: τ) σ H' → Q w H') → rr [v] H Q) (hg : Gl X nm := by rfl) (hn : nm ≠ "__name__" := by decide) (hdb : (nm == ("__debug__" : Str)) = false := by decide)
    (hst : starEach [a] X.env = (false, eval a X.env) :: starEach [] X.env := by rfl) (hpl : (backTo pos (starEach [] X.env)).any (·.1) = false := by rfl) : E X ρ (.Call (.Name nm p) [a] [] pos) r := fun c τ σ H s Q q =>
  te_of (pe_callB hc hg hm hv (pa_cons peS pa_nil hst) hn hdb hst hpl) (he c τ σ H s _ fun v H1 s1 => f c τ σ H1 v s1 Q q)
theorem e_bi2 {id : String} {rr : List V → Hp → VK → Prop} (hc : CallR X (.builtin id) rr) (hm : X.mg nm = none) (he : E X ρ a r1) (he2 : E X ρ b r2) (hv : bootBuiltins nm = some (.builtin id))
    (f : ∀ c τ σ H v u, St X.K c ρ ((u, r2) :: (v, r1) :: τ) σ H → ∀ Q : VK, (∀ w H', St X.K c ρ ((w, r) :: τ) σ H' → Q w H') → rr [v, u] H Q) (hg : Gl X nm := by rfl) (hn : nm ≠ "__name__" := by decide) (hdb : (nm == ("__debug__" : Str)) = false := by decide)
    (hst : starEach [a, b] X.env = (false, eval a X.env) :: starEach [b] X.env := by rfl) (hst2 : starEach [b] X.env = (false, eval b X.env) :: starEach [] X.env := by rfl) (hpl : (backTo pos (starEach [b] X.env)).any (·.1) = false := by rfl) : E X ρ (.Call (.Name nm p) [a, b] [] pos) r := fun c τ σ H s Q q =>
  te_of (pe_callB hc hg hm hv (pa_cons peS (pa_cons peS pa_nil hst2) hst) hn hdb hst hpl) (he c τ σ H s _ fun v H1 s1 => he2 c _ σ H1 s1 _ fun u H2 s2 => f c τ σ H2 v u s2 Q q)
theorem e_ty {ty : String} {rr : List V → Hp → VK → Prop} (hc : CallR X (.type ty) rr) (hm : X.mg nm = none) (he : E X ρ a r1) (hv : bootBuiltins nm = some (.type ty))
    (f : ∀ c τ σ H v, St X.K c ρ ((v, r1) :: τ) σ H → ∀ Q : VK, (∀ w H', St X.K c ρ ((w, r) :: τ) σ H' → Q w H') → rr [v] H Q) (hg : Gl X nm := by rfl) (hn : nm ≠ "__name__" := by decide) (hdb : (nm == ("__debug__" : Str)) = false := by decide)
    (hst : starEach [a] X.env = (false, eval a X.env) :: starEach [] X.env := by rfl) (hpl : (backTo pos (starEach [] X.env)).any (·.1) = false := by rfl) : E X ρ (.Call (.Name nm p) [a] [] pos) r := fun c τ σ H s Q q =>
  te_of (pe_callTy hc hg hm hv (pa_cons peS pa_nil hst) hn hdb hst hpl) (he c τ σ H s _ fun v H1 s1 => f c τ σ H1 v s1 Q q)

def T.len : T → Option Nat
  | .lst ts => some ts.length
  | .tup ts => some ts.length
  | .d (.lst ds) => some ds.length
  | .d (.tup ds) => some ds.length
  | .d (.scr ns) => some ns.length
  | _ => none
theorem e_len (hm : X.mg "len" = none) (he : E X ρ a r1) (hv : view ρ r1 = some t := by rfl) (hn : t.len = some n := by rfl) (hg : Gl X "len" := by rfl)
    (hst : starEach [a] X.env = (false, eval a X.env) :: starEach [] X.env := by rfl) (hpl : (backTo pos (starEach [] X.env)).any (·.1) = false := by rfl) : E X ρ (.Call (.Name "len" p) [a] [] pos) (.tm (.d (.int (n : Int)))) :=
  e_bi call_len_seq hm he PySem.boot_len (fun c τ σ H v s Q q => by
    obtain ⟨G, f, sb, w, _⟩ := s.top hv
    cases t with
    | lst ts =>
      obtain ⟨ar, vs, g, e1, _, e2, e3⟩ := w.is_lst
      cases hn
      refine ⟨ar, vs, by rw [e1], .inl (SqL.of e2), ?_⟩
      rw [e3.len]; exact q _ _ s.pop.int
    | tup ts =>
      obtain ⟨ar, vs, g, e1, _, e2, e3⟩ := w.is_tup
      cases hn
      refine ⟨ar, vs, by rw [e1], .inr (SqT.of e2), ?_⟩
      rw [e3.len]; exact q _ _ s.pop.int
    | dct ts => cases hn
    | obj _ _ => cases hn
    | tag _ _ => cases hn
    | d x =>
      obtain ⟨w, _⟩ := w.is_d
      cases x with
      | lst ds =>
        obtain ⟨ar, vs, e1, e2, e3⟩ := w.is_lst
        cases hn
        refine ⟨ar, vs, by rw [e1], .inl (SqL.of (sb _ _ e2)), ?_⟩
        rw [e3.len]; exact q _ _ s.pop.int
      | tup ds =>
        obtain ⟨ar, vs, e1, e2, e3⟩ := w.is_tup
        cases hn
        refine ⟨ar, vs, by rw [e1], .inr (SqT.of (sb _ _ e2)), ?_⟩
        rw [e3.len]; exact q _ _ s.pop.int
      | scr ns =>
        obtain ⟨ar, e1, e2⟩ := w.is_scr
        cases hn
        refine ⟨ar, _, by rw [e1], .inl (sb.seq e2), ?_⟩
        rw [List.length_map]; exact q _ _ s.pop.int
      | _ => cases hn) hg (by decide) (by decide) hst hpl
theorem e_lenS {z : Str} (hm : X.mg "len" = none) (he : E X ρ a (.tm (.d (.str z)))) (hz : z.length ≤ sizeLine) (hg : Gl X "len" := by rfl)
    (hst : starEach [a] X.env = (false, eval a X.env) :: starEach [] X.env := by rfl) (hpl : (backTo pos (starEach [] X.env)).any (·.1) = false := by rfl) : E X ρ (.Call (.Name "len" p) [a] [] pos) (.tm (.d (.int (z.length : Int)))) :=
  e_bi call_len_str hm he PySem.boot_len (fun c τ σ H v s Q q => by
    obtain rfl := s.vstr
    exact ⟨z, rfl, hz, q _ _ s.pop.int⟩) hg (by decide) (by decide) hst hpl
/-- len of a dict -/
theorem e_lenD {kvs : List (List Key × T)} (hm : X.mg "len" = none) (he : E X ρ a (.pl n [])) (hρ : ρ[n]? = some (some (.dct kvs)) := by rfl) (hg : Gl X "len" := by rfl)
    (hst : starEach [a] X.env = (false, eval a X.env) :: starEach [] X.env := by rfl) (hpl : (backTo pos (starEach [] X.env)).any (·.1) = false := by rfl) : E X ρ (.Call (.Name "len" p) [a] [] pos) (.tm (.d (.int (kvs.length : Int)))) :=
  e_bi call_len_dT hm he PySem.boot_len (fun c τ σ H v s Q q => by
    obtain ⟨G, f, sb, w, _⟩ := s.top (t := .dct kvs) (view_pl hρ rfl)
    obtain ⟨ar, vs, g, e1, _, e2, e3⟩ := w.is_dct
    refine ⟨ar, vs, by rw [e1], e2, ?_⟩
    rw [e3.len]; exact q _ _ s.pop.int) hg (by decide) (by decide) hst hpl

/-- the tree is a list of the data ds -/
def isDL (t : T) (ds : List D) : Prop := t = .d (.lst ds) ∨ t = .lst (ds.map T.d)
theorem isDL.d : isDL (.d (.lst ds)) ds := .inl rfl
theorem isDL.l : isDL (.lst (ds.map T.d)) ds := .inr rfl
theorem isDL.at {K : PySem.W.Frag} {G H : Hp} {v : V} {f : List Addr} (h : isDL t ds) (sb : Same G H) (w : Own K G H v t f) : ∃ ar vs, v = .ref ar ∧ H ar = some (.lst vs) ∧ Drs K G vs ds := by
  rcases h with rfl | rfl
  · obtain ⟨ar, vs, e1, e2, e3⟩ := w.is_d.1.is_lst
    exact ⟨ar, vs, e1, sb _ _ e2, e3⟩
  · obtain ⟨ar, vs, g, e1, _, e2, e3⟩ := w.is_lst
    exact ⟨ar, vs, e1, e2, (Owns.ds rfl e3).1⟩
/-- a list that is new, out of the newest temporary's data -/
theorem St.newL {K : PySem.W.Frag} {c : Cst} {σ : L2.St} {H : Hp} {τ : List (V × R)} {v : V} {q : Addr} {vs' : List V} {ds' : List D} (s : St K c ρ ((v, r) :: τ) σ H) (hv : view ρ r = some t) (hd : isDL t ds) (hq : H q = none)
    (f : ∀ G ar vs, v = .ref ar → H ar = some (.lst vs) → Drs K G vs ds → Drs K G vs' ds') : St K c ρ ((.ref q, .tm (.lst (ds'.map T.d))) :: τ) σ (upd H q (.lst vs')) := by
  have sm : Same H (upd H q (.lst vs')) := fun a u e => by rw [upd_ne (ne_of_none e hq)]; exact e
  -- the same base for the temporary and what is below
  have key : ∃ G, ∃ fs ft, Core c G H (fs ++ ft) ∧ Slots K G H ρ σ fs ∧ Temps K G H ρ σ τ ft ∧ Drs K G vs' ds' := by
    obtain ⟨G, fs, ft, C, L, M⟩ := s
    cases M with
    | @tm _ _ t0 f1 f2 h1 h2 =>
      have e' : t0 = t := by simpa [view] using hv
      subst e'
      obtain ⟨ar, vs, e1, e2, e3⟩ := hd.at C.sub h1
      exact ⟨G, fs, f2, C.sl ((List.sublist_append_right _ _).append_left fs), L, h2, f G ar vs e1 e2 e3⟩
    | @pl _ _ i p u t0 s0 f0 a1 a2 a3 a4 h2 =>
      have e' : T.at p t0 = some t := by simpa [view, a2] using hv
      obtain ⟨v0, l1, f1, l2, b1, b2, b3, _⟩ := L.get a2
      rw [a1] at b1
      cases b1
      obtain ⟨w0, m1, f', m2, c1, c2, c3, _⟩ := b3.focus e'
      rw [a4] at c2
      cases c2
      obtain ⟨ar, vs, e1, e2, e3⟩ := hd.at C.sub c3
      exact ⟨G, fs, ft, C, L, h2, f G ar vs e1 e2 e3⟩
  obtain ⟨G, fs, ft, C, L, M, w⟩ := key
  exact StA.new (vs := vs') (ts := ds'.map T.d) ⟨G, fs, [], ft, C, L, Owns.of_ds w, M⟩ hq fun G fa _ w => ⟨fa, .refl _, .lst upd_same w⟩
theorem e_list (hm : X.mg "list" = none) (he : E X ρ a r) (hv : view ρ r = some t) (hd : isDL t ds) (hg : Gl X "list" := by rfl)
    (hst : starEach [a] X.env = (false, eval a X.env) :: starEach [] X.env := by rfl) (hpl : (backTo pos (starEach [] X.env)).any (·.1) = false := by rfl) : E X ρ (.Call (.Name "list" p) [a] [] pos) (.tm (.lst (ds.map T.d))) :=
  e_ty call_list_of hm he boot_list (fun c τ σ H v s Q q => by
    obtain ⟨G, f, sb, w, _⟩ := s.top hv
    obtain ⟨ar, vs, e1, e2, e3⟩ := hd.at sb w
    refine ⟨ar, vs, by rw [e1], .inl (SqL.of e2), fun l hl => q _ _ (s.newL hv hd hl fun G ar' vs' f1 f2 f3 => ?_)⟩
    rw [e1] at f1
    cases f1
    rw [e2] at f2
    cases f2
    exact f3) hg (by decide) (by decide) hst hpl
/-- a list just come, of data, is data -/
theorem e_fzL (h : E X ρ e (.tm (.lst (ds.map T.d)))) : E X ρ e (.tm (.d (.lst ds))) := e_as (e_fz h) (by rw [show (T.lst (ds.map T.d)).toD = .lst ds from by rw [T.toD, T.toDs_d]])
/-- xs[lo:hi] -/
def Part (X : Cx) (ρ : Rho) (o : Option Expr) (i : Option Int) : Prop := match o, i with
  | none, none => True
  | some e, some i => E X ρ e (.tm (.d (.int i)))
  | _, _ => False
def poS (X : Cx) (o : Option Expr) : TO := match o with
  | none => tNoPart
  | some e => tPart (teS X e)
theorem poSS {o : Option Expr} : PO X o (poS X o) := by
  cases o with
  | none => exact po_none
  | some e => exact po_some peS
theorem Part.run {o : Option Expr} {z : Option Int} (h : Part X ρ o z) {c : Cst} {τ : List (V × R)} {σ : L2.St} {H : Hp} (s : St X.K c ρ τ σ H) {Q : Option Int → Hp → Prop} (q : ∀ H', St X.K c ρ τ σ H' → Q z H') : poS X o σ H Q := by
  cases o with
  | none =>
    cases z with
    | none => exact q H s
    | some _ => exact h.elim
  | some e =>
    cases z with
    | none => exact h.elim
    | some i => exact (show E X ρ e (.tm (.d (.int i))) from h) c τ σ H s _ fun v H1 s1 => ⟨i, s1.vint, q H1 s1.pop⟩
def cutD (xs : List D) (lo hi : Option Int) : List D := (xs.drop (HT.sIx xs.length 0 lo)).take (HT.sIx xs.length xs.length hi - HT.sIx xs.length 0 lo)
theorem Drs.drop {K : PySem.W.Frag} {G : Hp} : ∀ {vs : List V} {ds : List D} (n : Nat), Drs K G vs ds → Drs K G (vs.drop n) (ds.drop n)
  | _, _, 0, h => h
  | [], [], _ + 1, _ => .nil
  | _ :: _, _ :: _, n + 1, h => by cases h with | cons h1 h2 => exact Drs.drop n h2
  | [], _ :: _, _, h => by cases h
  | _ :: _, [], _, h => by cases h
theorem Drs.take {K : PySem.W.Frag} {G : Hp} : ∀ {vs : List V} {ds : List D} (n : Nat), Drs K G vs ds → Drs K G (vs.take n) (ds.take n)
  | _, _, 0, _ => .nil
  | [], [], _ + 1, _ => .nil
  | _ :: _, _ :: _, n + 1, h => by cases h with | cons h1 h2 => exact .cons h1 (Drs.take n h2)
  | [], _ :: _, _, h => by cases h
  | _ :: _, [], _, h => by cases h
theorem Drs.reverse {K : PySem.W.Frag} {G : Hp} : ∀ {vs : List V} {ds : List D}, Drs K G vs ds → Drs K G vs.reverse ds.reverse
  | [], [], _ => .nil
  | _ :: _, _ :: _, h => by
    cases h with | cons h1 h2 =>
    rw [List.reverse_cons, List.reverse_cons]
    exact (Drs.reverse h2).append (.cons h1 .nil)
  | [], _ :: _, h => by cases h
  | _ :: _, [], h => by cases h
theorem e_slice {lo hi : Option Expr} {l h : Option Int} {p2 : Pos} (he : E X ρ a r) (hv : view ρ r = some t) (hd : isDL t ds) (h1 : Part X ρ lo l) (h2 : Part X ρ hi h) : E X ρ (.Subscript a (.Slice lo hi none p2) pos) (.tm (.lst ((cutD ds l h).map T.d))) := fun c τ σ H s Q q =>
  te_of (pe_slice sl_list peS poSS poSS) (he c τ σ H s _ fun v H1 s1 => h1.run s1 fun H2 s2 => h2.run s2 fun H3 s3 => by
    obtain ⟨G, f, sb, w, _⟩ := s3.top hv
    obtain ⟨ar, vs, e1, e2, e3⟩ := hd.at sb w
    refine ⟨ar, vs, e1, SqL.of e2, fun l' hl => q _ _ (s3.newL hv hd hl fun G ar' vs' f1 f2 f3 => ?_)⟩
    rw [e1] at f1
    cases f1
    rw [e2] at f2
    cases f2
    unfold cutV cutD
    rw [f3.len]
    exact (f3.drop _).take _)
/-- xs[::-1] -/
theorem e_revL {kk : Nat} {p1 p2 p3 : Pos} (he : E X ρ a r) (hv : view ρ r = some t) (hd : isDL t ds) : E X ρ (.Subscript a (.Slice none none (some (.UnaryOp .USub (.Constant (.int 1) kk p1) p2)) p3) pos) (.tm (.lst (ds.reverse.map T.d))) := fun c τ σ H s Q q =>
  te_of (pe_revL peS) (he c τ σ H s _ fun v H1 s1 => by
    obtain ⟨G, f, sb, w, _⟩ := s1.top hv
    obtain ⟨ar, vs, e1, e2, e3⟩ := hd.at sb w
    refine ⟨ar, vs, e1, SqL.of e2, fun l' hl => q _ _ (s1.newL hv hd hl fun G ar' vs' f1 f2 f3 => ?_)⟩
    rw [e1] at f1
    cases f1
    rw [e2] at f2
    cases f2
    exact f3.reverse)
/-- xs + ys, both lists of data that are known to last -/
theorem e_cat {xs ys : List D} (ha : E X ρ a (.tm (.d (.lst xs)))) (hb : E X ρ b (.tm (.d (.lst ys)))) (hl : xs.length + ys.length ≤ sizeLine) : E X ρ (.BinOp a .Add b pos) (.tm (.lst ((xs ++ ys).map T.d))) :=
  e_op op_cat ha hb fun c τ σ H v u s Q q => by
    obtain ⟨G, fs, ft, C, L, M⟩ := s
    cases M with
    | @tm _ _ _ f1 f2 h1 h2 =>
    cases h2 with
    | @tm _ _ _ f3 f4 h3 h4 =>
    obtain ⟨q1, z1⟩ := h1.is_d
    obtain ⟨q3, z3⟩ := h3.is_d
    obtain ⟨ar, vs, e1, e2, e3⟩ := q3.is_lst
    obtain ⟨br, us, g1, g2, g3⟩ := q1.is_lst
    refine ⟨ar, br, vs, us, e1, g1, C.sub _ _ e2, C.sub _ _ g2, by rw [e3.len, g3.len]; exact hl, fun l hl' => q _ _ ?_⟩
    subst z1 z3
    exact StA.new (vs := vs ++ us) (ts := (xs ++ ys).map T.d) ⟨G, fs, [], f4, by simpa using C, L, Owns.of_ds (e3.append g3), h4⟩ hl' fun G fa _ w => ⟨fa, .refl _, .lst upd_same w⟩
/-- xs * k -/
theorem Drs.rep {K : PySem.W.Frag} {G : Hp} {vs : List V} {ds : List D} (h : Drs K G vs ds) : ∀ n : Nat, Drs K G (List.flatten (List.replicate n vs)) (List.flatten (List.replicate n ds))
  | 0 => .nil
  | n + 1 => by
    rw [List.replicate_succ, List.replicate_succ, List.flatten_cons, List.flatten_cons]
    exact h.append (Drs.rep h n)
theorem e_max2 (hc : X.calm = true) (hm : X.mg "max" = none) (ha : E X ρ a (.tm (.d (.int i)))) (hb : E X ρ b (.tm (.d (.int j)))) (hg : Gl X "max" := by rfl)
    (hst : starEach [a, b] X.env = (false, eval a X.env) :: starEach [b] X.env := by rfl) (hst2 : starEach [b] X.env = (false, eval b X.env) :: starEach [] X.env := by rfl) (hpl : (backTo pos (starEach [b] X.env)).any (·.1) = false := by rfl) : E X ρ (.Call (.Name "max" p) [a, b] [] pos) (.tm (.d (.int (max i j)))) :=
  e_bi2 (call_max2 hc) hm ha hb (by decide +kernel) (fun c τ σ H v u s Q q => by
    obtain rfl := s.vint
    obtain rfl := s.pop.vint
    refine ⟨i, j, rfl, ?_⟩
    have e : (if j > i then j else i) = max i j := by omega
    rw [e]; exact q _ _ s.pop.pop.int) hg (by decide) (by decide) hst hst2 hpl
theorem e_min2 (hc : X.calm = true) (hm : X.mg "min" = none) (ha : E X ρ a (.tm (.d (.int i)))) (hb : E X ρ b (.tm (.d (.int j)))) (hg : Gl X "min" := by rfl)
    (hst : starEach [a, b] X.env = (false, eval a X.env) :: starEach [b] X.env := by rfl) (hst2 : starEach [b] X.env = (false, eval b X.env) :: starEach [] X.env := by rfl) (hpl : (backTo pos (starEach [b] X.env)).any (·.1) = false := by rfl) : E X ρ (.Call (.Name "min" p) [a, b] [] pos) (.tm (.d (.int (min i j)))) :=
  e_bi2 (call_min2 hc) hm ha hb (by decide +kernel) (fun c τ σ H v u s Q q => by
    obtain rfl := s.vint
    obtain rfl := s.pop.vint
    refine ⟨i, j, rfl, ?_⟩
    have e : (if j < i then j else i) = min i j := by omega
    rw [e]; exact q _ _ s.pop.pop.int) hg (by decide) (by decide) hst hst2 hpl
theorem isDL.ints {K : PySem.W.Frag} {G H : Hp} {v : V} {f : List Addr} {ns : List Int} (h : isDL t (ns.map D.int)) (sb : Same G H) (w : Own K G H v t f) : ∃ ar, v = .ref ar ∧ SqL K H ar (ns.map V.int) := by
  obtain ⟨ar, vs, e1, e2, e3⟩ := h.at sb w
  rw [e3.ints] at e2
  exact ⟨ar, e1, SqL.of e2⟩
theorem e_maxL {ns : List Int} (hc : X.calm = true) (hm : X.mg "max" = none) (ha : E X ρ a r) (hv : view ρ r = some t) (hd : isDL t (ns.map D.int)) (hi : i ∈ ns) (hle : ∀ y ∈ ns, y ≤ i) (hg : Gl X "max" := by rfl)
    (hst : starEach [a] X.env = (false, eval a X.env) :: starEach [] X.env := by rfl) (hpl : (backTo pos (starEach [] X.env)).any (·.1) = false := by rfl) : E X ρ (.Call (.Name "max" p) [a] [] pos) (.tm (.d (.int i))) :=
  e_bi (cr_max hc) hm ha (by decide +kernel) (fun c τ σ H v s Q q => by
    obtain ⟨G, f, sb, w, _⟩ := s.top hv
    obtain ⟨ar, e1, e2⟩ := hd.ints sb w
    refine ⟨ar, ns, by rw [e1], e2, List.length_pos_of_mem hi, fun m h1 h2 => ?_⟩
    have e : m = i := Int.le_antisymm (hle m h1) (h2 i hi)
    rw [e]; exact q _ _ s.pop.int) hg (by decide) (by decide) hst hpl
theorem e_minL {ns : List Int} (hc : X.calm = true) (hm : X.mg "min" = none) (ha : E X ρ a r) (hv : view ρ r = some t) (hd : isDL t (ns.map D.int)) (hi : i ∈ ns) (hle : ∀ y ∈ ns, i ≤ y) (hg : Gl X "min" := by rfl)
    (hst : starEach [a] X.env = (false, eval a X.env) :: starEach [] X.env := by rfl) (hpl : (backTo pos (starEach [] X.env)).any (·.1) = false := by rfl) : E X ρ (.Call (.Name "min" p) [a] [] pos) (.tm (.d (.int i))) :=
  e_bi (cr_min hc) hm ha (by decide +kernel) (fun c τ σ H v s Q q => by
    obtain ⟨G, f, sb, w, _⟩ := s.top hv
    obtain ⟨ar, e1, e2⟩ := hd.ints sb w
    refine ⟨ar, ns, by rw [e1], e2, List.length_pos_of_mem hi, fun m h1 h2 => ?_⟩
    have e : m = i := Int.le_antisymm (h2 i hi) (hle m h1)
    rw [e]; exact q _ _ s.pop.int) hg (by decide) (by decide) hst hpl
/-- sorted(xs), ints: ns' -/
theorem e_sortedI {ns ns' : List Int} (hm : X.mg "sorted" = none) (ha : E X ρ a r) (hv : view ρ r = some t) (hd : isDL t (ns.map D.int)) (hp : ns'.Perm ns) (hs : ns'.Pairwise (· ≤ ·)) (hg : Gl X "sorted" := by rfl)
    (hst : starEach [a] X.env = (false, eval a X.env) :: starEach [] X.env := by rfl) (hpl : (backTo pos (starEach [] X.env)).any (·.1) = false := by rfl) : E X ρ (.Call (.Name "sorted" p) [a] [] pos) (.tm (.lst ((ns'.map D.int).map T.d))) :=
  e_bi cr_sortedI hm ha (by decide +kernel) (fun c τ σ H v s Q q => by
    obtain ⟨G, f, sb, w, _⟩ := s.top hv
    obtain ⟨ar, e1, e2⟩ := hd.ints sb w
    refine ⟨ar, ns, by rw [e1], e2, fun ms l h1 h2 hl => q _ _ (s.newL hv hd hl fun G ar' vs' f1 f2 f3 => ?_)⟩
    rw [PySem.W.ksm_same (hp.trans h1.symm) hs h2]
    exact Drs.of_ints) hg (by decide) (by decide) hst hpl
theorem e_strI (hm : X.mg "str" = none) (ha : E X ρ a (.tm (.d (.int i)))) (hi : i.natAbs.log2 < 1920) (hg : Gl X "str" := by rfl)
    (hst : starEach [a] X.env = (false, eval a X.env) :: starEach [] X.env := by rfl) (hpl : (backTo pos (starEach [] X.env)).any (·.1) = false := by rfl) : E X ρ (.Call (.Name "str" p) [a] [] pos) (.tm (.d (.str (toString i)))) :=
  e_ty call_str_int hm ha boot_str (fun c τ σ H v s Q q => by
    obtain rfl := s.vint
    exact ⟨i, rfl, hi, q _ _ (s.pop.push fun _ => .str _)⟩) hg (by decide) (by decide) hst hpl
theorem e_abs (hm : X.mg "abs" = none) (ha : E X ρ a (.tm (.d (.int i)))) (hg : Gl X "abs" := by rfl)
    (hst : starEach [a] X.env = (false, eval a X.env) :: starEach [] X.env := by rfl) (hpl : (backTo pos (starEach [] X.env)).any (·.1) = false := by rfl) : E X ρ (.Call (.Name "abs" p) [a] [] pos) (.tm (.d (.int (if i < 0 then -i else i)))) :=
  e_bi call_abs hm ha (by decide +kernel) (fun c τ σ H v s Q q => by
    obtain rfl := s.vint
    exact ⟨i, rfl, q _ _ s.pop.int⟩) hg (by decide) (by decide) hst hpl
def T.ty : T → Option String
  | .lst _ => some "list"
  | .tup _ => some "tuple"
  | .d .non => some "NoneType"
  | .d (.bl _) => some "bool"
  | .d (.int _) => some "int"
  | .d (.str _) => some "str"
  | .d (.lst _) => some "list"
  | .d (.tup _) => some "tuple"
  | _ => none
theorem Own.ty {K : PySem.W.Frag} {G H : Hp} {v : V} {f : List Addr} {z : String} (sb : Same G H) (w : Own K G H v t f) (h : t.ty = some z) : TyX K H v (.type z) := by
  cases t with
  | lst ts => cases h; obtain ⟨ar, vs, g, e1, _, e2, e3⟩ := w.is_lst; subst e1; exact .base (.lst e2)
  | tup ts => cases h; obtain ⟨ar, vs, g, e1, _, e2, e3⟩ := w.is_tup; subst e1; exact .base (.tup e2)
  | dct ts => cases h
  | obj _ _ => cases h
  | tag _ _ => cases h
  | d x =>
    obtain ⟨w, _⟩ := w.is_d
    cases x with
    | non => cases h; cases w; exact .base .non
    | bl _ => cases h; cases w; exact .base (.bl _)
    | int _ => cases h; cases w; exact .base (.int _)
    | str _ => cases h; cases w; exact .base (.str _)
    | lst ds => cases h; obtain ⟨ar, vs, e1, e2, _⟩ := w.is_lst; subst e1; exact .base (.lst (sb _ _ e2))
    | tup ds => cases h; obtain ⟨ar, vs, e1, e2, _⟩ := w.is_tup; subst e1; exact .base (.tup (sb _ _ e2))
    | _ => cases h
def tISI (K : PySem.W.Frag) (te : TE) (z : String) : TE := fun σ H Q => te σ H fun x H1 => rIsi K [x, .ty z] H1 Q
theorem e_isi {z zz : String} {k : Bool} {nm : Str} {p2 : Pos} (hm : X.mg "isinstance" = none) (hm2 : X.mg nm = none) (he : E X ρ a r) (hv : view ρ r = some t) (ht : t.ty = some z) (hk : PySem.W.kitOne X.K (.type z) (.type zz) = some k) (hb : bootBuiltins nm = some (.type zz))
    (hg : Gl X "isinstance" := by rfl) (hg2 : Gl X nm := by rfl) (hn : nm ≠ "__name__" := by decide) (hdb : (nm == ("__debug__" : Str)) = false := by decide)
    (hst : starEach [a, .Name nm p2] X.env = (false, eval a X.env) :: starEach [.Name nm p2] X.env := by rfl) (hst2 : starEach [.Name nm p2] X.env = (false, eval (.Name nm p2) X.env) :: starEach [] X.env := by rfl) (hpl : (backTo pos (starEach [.Name nm p2] X.env)).any (·.1) = false := by rfl) :
    E X ρ (.Call (.Name "isinstance" p) [a, .Name nm p2] [] pos) (.tm (.d (.bl k))) := fun c τ σ H s Q q =>
  te_of (pe_callB call_isi hg hm (by decide +kernel) (pa_cons peS (pa_cons (pe_bltn (v := .ty zz) hg2 hm2 hb rfl hn hdb) pa_nil hst2) hst) (by decide) (by decide) hst hpl) (he c τ σ H s _ fun v H1 s1 => by
    obtain ⟨G, f, sb, w, _⟩ := s1.top hv
    exact ⟨v, .ty zz, _, _, k, rfl, .ty _, w.ty sb ht, hk, q _ _ (s1.pop.push fun _ => .bl k)⟩)
theorem e_fld {C : Addr} {fs : List (Str × D)} {f : Str} (hc : Cls X.K C) (hn : NoAttr X.K C f) (he : E X ρ a (.tm (.d (.obj C fs)))) (hf : fs.lookup f = some x) (hb : attributeBase a f X.env (eval a X.env) = eval a X.env := by rfl) : E X ρ (.Attribute a f pos) (.tm (.d x)) := fun c τ σ H s Q q =>
  te_of (pe_fld peS hb) (he c τ σ H s _ fun v H1 s1 => by
    obtain ⟨u, ⟨ar, dx, vs, e1, e2, e3⟩, s2⟩ := s1.derive (P := fun u => ∃ ar dx vs, v = .ref ar ∧ H1 ar = some (.ins C dx vs) ∧ vs.lookup f = some u) (y := x) fun G sb h => by
      obtain ⟨ar, dx, vs, e1, e2, e3⟩ := h.is_obj
      obtain ⟨u, g1, g2⟩ := e3.get hf
      exact ⟨u, ⟨ar, dx, vs, e1, sb _ _ e2, g1⟩, g2⟩
    exact ⟨ar, C, dx, vs, u, e1, e2, hc, hn, e3, q _ _ s2⟩)
theorem rgV_d (lo hi : Int) : rgV lo hi = ((List.range (hi - lo).toNat).map fun k : Nat => lo + (k : Int)).map V.int := by
  unfold rgV; rw [List.map_map]; rfl
theorem e_listRg {p2 p3 : Pos} (hc : X.calm = true) (hm : X.mg "list" = none) (hm2 : X.mg "range" = none) (ha : E X ρ a (.tm (.d (.int i)))) (hb : E X ρ b (.tm (.d (.int j)))) (ok : RgOk i j) (hg : Gl X "list" := by rfl) (hg2 : Gl X "range" := by rfl)
    (na : starEach [a, b] X.env = (false, eval a X.env) :: starEach [b] X.env := by rfl) (nb : starEach [b] X.env = (false, eval b X.env) :: starEach [] X.env := by rfl) (hp : (backTo p3 (starEach [b] X.env)).any (·.1) = false := by rfl)
    (nl : starEach [.Call (.Name "range" p2) [a, b] [] p3] X.env = (false, eval (.Call (.Name "range" p2) [a, b] [] p3) X.env) :: starEach [] X.env := by rfl) :
    E X ρ (.Call (.Name "list" p) [.Call (.Name "range" p2) [a, b] [] p3] [] pos) (.tm (.lst ((((List.range (j - i).toNat).map fun k : Nat => i + (k : Int)).map D.int).map T.d))) := fun c τ σ H s Q q =>
  te_of (pe_listRg hc hg hm (prg_2 hg2 hm2 peS peS na nb hp) nl) (ha c τ σ H s _ fun v H1 s1 => hb c _ σ H1 s1 _ fun u H2 s2 => by
    obtain rfl := s2.vint
    obtain rfl := s2.pop.vint
    refine ⟨i, j, rfl, rfl, ok, fun l hl => q _ _ ?_⟩
    rw [rgV_d]
    obtain ⟨G, fs, ft, C, L, M⟩ := s2.pop.pop
    exact StA.new (ts := (((List.range (j - i).toNat).map fun k : Nat => i + (k : Int)).map D.int).map T.d) ⟨G, fs, [], ft, C, L, Owns.of_ds Drs.of_ints, M⟩ hl fun G fa _ w => ⟨fa, .refl _, .lst upd_same w⟩)
end
end DL
namespace DL
open PySem PySem.Spec PyProof.Rows L2
inductive Ix (ρ : Rho) : R → Int → R → Prop
  | L {ds : List D} {i : Int} {x : D} : atI ds i = some x → Ix ρ (.tm (.d (.lst ds))) i (.tm (.d x))
  | T {ds : List D} {i : Int} {x : D} : atI ds i = some x → Ix ρ (.tm (.d (.tup ds))) i (.tm (.d x))
  | S {ns : List Int} {i j : Int} : atI ns i = some j → Ix ρ (.tm (.d (.scr ns))) i (.tm (.d (.int j)))
  | PL {n : Nat} {p : List Nat} {ts : List T} {i : Int} {x : D} : view ρ (.pl n p) = some (.lst ts) → atI ts i = some (.d x) → Ix ρ (.pl n p) i (.tm (.d x))
  | PT {n : Nat} {p : List Nat} {ts : List T} {i : Int} {x : D} : view ρ (.pl n p) = some (.tup ts) → atI ts i = some (.d x) → Ix ρ (.pl n p) i (.tm (.d x))
  | PLp {n m : Nat} {p : List Nat} {ts : List T} {i : Int} {t' : T} : view ρ (.pl n p) = some (.lst ts) → ixN ts.length i = some m → ts[m]? = some t' → Ix ρ (.pl n p) i (.pl n (p ++ [m]))
  | PTp {n m : Nat} {p : List Nat} {ts : List T} {i : Int} {t' : T} : view ρ (.pl n p) = some (.tup ts) → ixN ts.length i = some m → ts[m]? = some t' → Ix ρ (.pl n p) i (.pl n (p ++ [m]))
  | ML {ts : List T} {i : Int} {t' : T} : atI ts i = some t' → Ix ρ (.tm (.lst ts)) i (.tm t')
  | MT {ts : List T} {i : Int} {t' : T} : atI ts i = some t' → Ix ρ (.tm (.tup ts)) i (.tm t')
  | X {z : Str} {i : Int} {c0 : Nat} : z.length ≤ sizeLine → atI z.cps.toList i = some c0 → Ix ρ (.tm (.d (.str z))) i (.tm (.d (.str ⟨#[c0]⟩)))
section
variable {X : Cx} {ρ : Rho} {a b : Expr} {r r' r1 r2 : R} {i : Int} {pos : Pos} {op : CmpOp} {k : Bool} {t t1 t2 : T}
theorem e_ix (ha : E X ρ a r) (hb : E X ρ b (.tm (.d (.int i)))) (h : Ix ρ r i r') (hs : PlainIx b := by exact fun _ _ => rfl) : E X ρ (.Subscript a b pos) r' := by
  cases h with
  | L h => exact e_ixL ha hb h hs
  | T h => exact e_ixT ha hb h hs
  | S h => exact e_ixS ha hb h hs
  | PL h h2 => exact e_ixPL ha hb h h2 hs
  | PT h h2 => exact e_ixPT ha hb h h2 hs
  | PLp h h2 h3 => exact e_ixPLp ha hb h h2 h3 hs
  | PTp h h2 h3 => exact e_ixPTp ha hb h h2 h3 hs
  | ML h => exact e_ixML ha hb h hs
  | MT h => exact e_ixMT ha hb h hs
  | X h h2 => exact e_ixX ha hb h h2 hs
/-- an item of mapped data -/
theorem atI_map {α β : Type} {f : α → β} {xs : List α} {n : Nat} {x : α} (h : xs[n]? = some x) : atI (xs.map f) (n : Int) = some (f x) := atI_nat (by rw [List.getElem?_map, h]; rfl)
theorem atI_map' {α β : Type} {f : α → β} {xs : List α} {n : Nat} {i : Int} {x : α} (h : xs[n]? = some x) (e : i = (n : Int)) : atI (xs.map f) i = some (f x) := by rw [e]; exact atI_map h
theorem atI_get' {α : Type} {xs : List α} {n : Nat} {i : Int} {x : α} (h : xs[n]? = some x) (e : i = (n : Int)) : atI xs i = some x := by rw [e]; exact atI_nat h
theorem ixN_nat {n m : Nat} (h : m < n) : ixN n (m : Int) = some m := by
  unfold ixN
  rw [if_pos (by omega), if_pos (by omega)]; simp
/-- == of a known answer -/
theorem eqv_int (i j : Int) : PyData.eqv (D.int i).py (D.int j).py = decide (i = j) := by
  simp only [D.py, PyData.eqv]
  by_cases h : i = j <;> simp [h]
theorem eqv_bl (i j : Bool) : PyData.eqv (D.bl i).py (D.bl j).py = decide (i = j) := by
  simp only [D.py, PyData.eqv]
  by_cases h : i = j <;> simp [h]
theorem eqvAll_map {α : Type} {f : α → D} [DecidableEq α] (h : ∀ x y, PyData.eqv (f x).py (f y).py = decide (x = y)) : ∀ xs ys : List α, PyData.eqvAll (D.pys (xs.map f)) (D.pys (ys.map f)) = decide (xs = ys)
  | [], [] => by simp [D.pys, PyData.eqvAll]
  | [], y :: ys => by simp [D.pys, PyData.eqvAll]
  | x :: xs, [] => by simp [D.pys, PyData.eqvAll]
  | x :: xs, y :: ys => by
    rw [List.map_cons, List.map_cons, D.pys, D.pys, PyData.eqvAll, h, eqvAll_map h xs ys]
    by_cases e : x = y <;> by_cases e2 : xs = ys <;> simp [e, e2]
theorem eqv_lst {α : Type} {f : α → D} [DecidableEq α] (h : ∀ x y, PyData.eqv (f x).py (f y).py = decide (x = y)) (xs ys : List α) : PyData.eqv (D.lst (xs.map f)).py (D.lst (ys.map f)).py = decide (xs = ys) := by
  simp only [D.py, PyData.eqv]
  exact eqvAll_map h xs ys
theorem eqv_ints (xs ys : List Int) : PyData.eqv (D.lst (xs.map D.int)).py (D.lst (ys.map D.int)).py = decide (xs = ys) := eqv_lst eqv_int xs ys
theorem ok_ints (xs : List Int) (n : Nat) : (D.lst (xs.map D.int)).ok (n + 1) := fun d hd => by
  obtain ⟨x, _, e⟩ := List.mem_map.mp hd
  subst e
  cases n <;> trivial
theorem ok_map {α : Type} {f : α → D} {n : Nat} (h : ∀ x, (f x).ok n) (xs : List α) : (D.lst (xs.map f)).ok (n + 1) := fun d hd => by
  obtain ⟨x, _, e⟩ := List.mem_map.mp hd
  subst e
  exact h x
theorem any_eqv {α : Type} {f : α → D} [DecidableEq α] (h : ∀ x y, PyData.eqv (f x).py (f y).py = decide (x = y)) (xs : List α) (y : α) : ((xs.map f).any fun z => PyData.eqv z.py (f y).py) = decide (y ∈ xs) := by
  rw [List.any_map]
  rw [Bool.eq_iff_iff, List.any_eq_true, decide_eq_true_eq]
  constructor
  · rintro ⟨x, hx, e⟩
    have e' : PyData.eqv (f x).py (f y).py = true := e
    rw [h, decide_eq_true_eq] at e'
    exact e' ▸ hx
  · intro hy
    exact ⟨y, hy, by show PyData.eqv (f y).py (f y).py = true; rw [h]; simp⟩
end
end DL
namespace DL
open PySem PySem.Spec PyProof.Rows L2
def downL (a : Int) (n : Nat) : List Int := (List.range n).map fun k : Nat => a - (k : Int)
theorem vals_rgD {a : Int} {n : Nat} {acc : Array Value} (h : ItemsOf (fun i v => ∃ t, v = .int (a + i * (-1)) t) acc n) : Vals ((downL a n).map V.int) acc.toList := by
  have e : acc.toList.length = n := by rw [Array.length_toList]; exact h.1
  unfold downL
  rw [← e, List.map_map]
  refine vals_of_get acc.toList _ fun j u hj => ?_
  obtain ⟨t, rfl⟩ := h.2 j u (by rw [← hj, Array.getElem?_toList])
  exact ⟨t, by show Value.int (a + (j : Int) * (-1)) t = Value.int (a - (j : Int)) t; congr 1; omega⟩
section
variable {X : Cx} {ρ : Rho} {a b : Expr} {i j : Int} {p p2 p3 pos : Pos}
theorem e_listRgD {kk : Nat} {p4 p5 : Pos} (hc : X.calm = true) (hm : X.mg "list" = none) (hm2 : X.mg "range" = none) (ha : E X ρ a (.tm (.d (.int i)))) (hb : E X ρ b (.tm (.d (.int j)))) (b1 : -(2 ^ 62) ≤ i) (b2 : i < 2 ^ 62) (b3 : -(2 ^ 62) ≤ j) (b4 : j < 2 ^ 62) (b5 : (i - j).toNat ≤ 2 ^ 24)
    (hg : Gl X "list" := by rfl) (hg2 : Gl X "range" := by rfl)
    (hs : starEach [a, b, .UnaryOp .USub (.Constant (.int 1) kk p4) p5] X.env = (false, eval a X.env) :: starEach [b, .UnaryOp .USub (.Constant (.int 1) kk p4) p5] X.env := by rfl)
    (hs2 : starEach [b, .UnaryOp .USub (.Constant (.int 1) kk p4) p5] X.env = (false, eval b X.env) :: starEach [.UnaryOp .USub (.Constant (.int 1) kk p4) p5] X.env := by rfl)
    (hs3 : starEach [.UnaryOp .USub (.Constant (.int 1) kk p4) p5] X.env = (false, eval (.UnaryOp .USub (.Constant (.int 1) kk p4) p5) X.env) :: starEach [] X.env := by rfl)
    (hpl : (backTo p3 (starEach [b, .UnaryOp .USub (.Constant (.int 1) kk p4) p5] X.env)).any (·.1) = false := by rfl)
    (nl : starEach [.Call (.Name "range" p2) [a, b, .UnaryOp .USub (.Constant (.int 1) kk p4) p5] [] p3] X.env = (false, eval (.Call (.Name "range" p2) [a, b, .UnaryOp .USub (.Constant (.int 1) kk p4) p5] [] p3) X.env) :: starEach [] X.env := by rfl) :
    E X ρ (.Call (.Name "list" p) [.Call (.Name "range" p2) [a, b, .UnaryOp .USub (.Constant (.int 1) kk p4) p5] [] p3] [] pos) (.tm (.lst (((downL i (i - j).toNat).map D.int).map T.d))) := fun c τ σ H s Q q => by
  -- the range, then the list
  intro pins s0 I
  refine Call_ (ld_blt I hg hm boot_list (PyProof.Rows.callWith_type1 (args_cons (Q := fun us s' => wpAny (model X.prog X.w) X.A (call (.type "list") us) (EP X pins σ Q) X.xe s') ?_ nl) nl))
  refine Call_ (ld_blt I hg2 hm2 boot_range (PyProof.Rows.callWith_type1 ?_ hs hpl))
  have neg : E X ρ (.UnaryOp .USub (.Constant (.int 1) kk p4) p5) (.tm (.d (.int (-1)))) := e_neg e_int
  have A : EA X ρ [a, b, .UnaryOp .USub (.Constant (.int 1) kk p4) p5] [.d (.int i), .d (.int j), .d (.int (-1))] := ea_cons ha (ea_cons hb (ea_cons neg ea_nil hs3) hs2) hs
  refine thn ((paS (X := X)).run p3 pins s0 σ H (fun vs H1 => vs = [.int i, .int j, .int (-1)] ∧ St X.K c ρ τ σ H1) I (A c τ σ H s _ fun vs H1 s1 => ?_)) fun us s1 hh => ?_
  · obtain ⟨G, fs, fa, ft, C, L, A, M⟩ := s1
    have q1 := (Owns.ds (ds := [.int i, .int j, .int (-1)]) rfl A).1
    cases q1 with | cons k1 q1 => cases q1 with | cons k2 q1 => cases q1 with | cons k3 q1 =>
    cases q1; cases k1; cases k2; cases k3
    exact ⟨rfl, G, fs, ft, C.sl ((List.sublist_append_right _ _).append_left fs), L, M⟩
  · obtain ⟨vs, H1, I1, r1, rfl, st⟩ := hh
    cases r1 with | cons r rr => cases rr with | cons r' rr => cases rr with | cons r'' rr =>
    cases rr
    obtain ⟨t, rfl⟩ := r
    obtain ⟨t', rfl⟩ := r'
    obtain ⟨t'', rfl⟩ := r''
    refine call_range_3 (by decide) ?_ (.inl (PyProof.noPylong_small (by decide)))
    refine args_nil ?_
    have I2 : Inv X pins σ H1 { s1 with heap := s1.heap.push { cls := .type "range", data := .fields #[.int i t, .int j t', .int (-1) t''] } } := I1.kept (t' := s1.toks) fun b o e => Heap.get?_push_of_some _ e
    refine call_list_range (n := (i - j).toNat) (I1.ok.hd hc) (IsRange.new ..) (PySem.W.small_down b1 b2 b3 b4) (PySem.W.rangeSize_downNat i j) b5 fun h' tk acc c' hk e' hi => ?_
    have hf : H1 (s1.heap.push { cls := .type "range", data := .fields #[.int i t, .int j t', .int (-1) t''] }).objs.size = none := I2.hok.fresh (Nat.le_refl _)
    refine ⟨.ref _, upd H1 (s1.heap.push { cls := .type "range", data := .fields #[.int i t, .int j t', .int (-1) t''] }).objs.size (.lst ((downL i (i - j).toNat).map V.int)), I2.laid hk (Nat.le_refl _) (show ObjOk X.prog X.w _ _ _ (.lst ((downL i (i - j).toNat).map V.int)) from ⟨?_, acc.toList, c', vals_rgD hi, ?_⟩), rfl, q _ _ ?_⟩
    · unfold downL
      rw [List.length_map, List.length_map, List.length_range, sizeLine_eq]; omega
    · rw [Array.toArray_toList]; exact e'
    · obtain ⟨G, fs, ft, C, L, M⟩ := st
      exact StA.new (ts := ((downL i (i - j).toNat).map D.int).map T.d) ⟨G, fs, [], ft, C, L, Owns.of_ds Drs.of_ints, M⟩ hf fun G fa _ w => ⟨fa, .refl _, .lst upd_same w⟩
end
end DL
namespace DL
open PySem PySem.Spec PyProof.Rows L2
def KnM (P : Program) (w : World) (K : PySem.W.Frag) (mg : Str → Option Value) (base : Heap) (C : Addr) (m : Str) (k : Nat) (S : Spec) : Prop :=
  ∃ (f : Addr) (fd : FuncData) (ps : List Str), FnOk P w K mg base (L2.CX P w) k f fd ps (SpD K S) ∧ Meth K C m f ∧ Binds K fd ps [] ∧ Cls K C
section
variable {X : Cx} {W : WX} {ρ : Rho} {Φ : Ph} {a : Expr} {t : T} {k : Nat} {S : Spec} {pos apos : Pos} {m : Str}
/-- o.m() where nothing is raised -/
theorem e_meth0 {C : Addr} {fs : List (Str × D)} {pl : Sem Bool} (F : KnM X.prog X.w X.K X.mg X.base C m k S) (hr : Room k X.A) (ha : E X ρ a (.tm (.d (.obj C fs)))) (x : S.α) (hx : S.enc x = [.obj C fs]) (hpre : S.pre x) (hp : ∀ t', S.post x t' → t' = t) (hxx : ∀ cls, ¬ S.exc x cls) (hl : ∀ d, (m, d) ∉ fs)
    (ht : eval (.Call (.Attribute a m apos) [] [] pos) X.env = (do
      let ov ← eval a X.env
      standAt apos.atName
      let (f, first) ← holding [ov] (getMethod ov m pl)
      callWith pos f first (backTo pos (starEach [] X.env)) (backToKw pos (keywordEach [] X.env))) := by rfl) : E X ρ (.Call (.Attribute a m apos) [] [] pos) (.tm t) := fun c τ σ H s Q q => by
  obtain ⟨f, fd, ps, F, me, hb, cl⟩ := F
  refine te_of (pe_meth0 (E := fun _ _ _ => False) (pl := pl) peS cl me F hr hb (dvs := []) .nil (passes_call (W := fun _ _ _ _ => False) takes0 fun _ _ _ _ h => h) ht) (ha c τ σ H s _ fun v H1 s1 => ?_)
  obtain ⟨G, fs0, ft, C0, L, M⟩ := s1
  cases M with | @tm _ _ _ f1 f2 h1 h2 =>
  obtain ⟨d1, rfl⟩ := h1.is_d
  obtain ⟨ar, dx, vs, e1, e2, e3⟩ := d1.is_obj
  subst e1
  refine ⟨ar, dx, vs, rfl, C0.sub _ _ e2, ?_, ?_⟩
  · -- no field of that name
    have : ∀ {vs : List (Str × V)} {fs : List (Str × D)}, DrF X.K G vs fs → (∀ d, (m, d) ∉ fs) → vs.lookup m = none := by
      intro vs fs h
      induction vs generalizing fs with
      | nil => intro _; rfl
      | cons v vs ih =>
        intro hn
        obtain ⟨g0, v0⟩ := v
        cases h with | cons h3 h4 =>
        have hne : ¬ (m == g0) = true := fun z => by
          have := (beq_iff_eq.mp z)
          exact hn _ (by rw [this]; exact List.mem_cons_self)
        rw [List.lookup_cons, Bool.eq_false_iff.mpr hne]
        exact ih h4 fun d z => hn d (List.mem_cons_of_mem _ z)
    exact this e3 hl
  · refine ⟨G, x, C0.sub, ?_, hpre, fun t' ht v H' G' fp af w nd fr => ?_, fun cls hc => (hxx cls hc).elim⟩
    · rw [hx]; exact .cons d1 .nil
    · obtain rfl := hp t' ht
      exact q v H' (St.after (by simpa using C0) L h2 af w nd fr)
theorem s_tryAs {x n : Str} {c0 : Value} {Xb : Value → Rho → Prop} {body suite : List Stmt} {b₀ : Stmt} {np pos' : Pos} (i : Nat) (Y : Bx X W k) (hc : Names X x c0)
    (hb : ∀ W' pn xe, Bx (X.tr pn xe) W' k → DL.S (X.tr pn xe) W' ρ body { Φ with ex := Xb })
    (hx : ∀ cls ρ', Xb cls ρ' → i < ρ'.length ∧ ∃ b, PySem.W.exmOne X.K cls c0 = some b ∧
      (b = true → ∀ a oe pn, Zc cls none oe → (∃ vs, oe.data = .fields vs) → DL.S (X.suite a ((a, oe) :: pn)) (fun _ _ _ _ => False) (ρ'.set i (some (.d (.adr a)))) (b₀ :: suite) { nx := fun ρ'' => Φ.nx (ρ''.set i none), rt := Φ.rt, bk := fun ρ'' => Φ.bk (ρ''.set i none), ct := fun ρ'' => Φ.ct (ρ''.set i none) }) ∧
      (b = false → Φ.ex cls ρ'))
    (hst : X.stack = X.env :: X.outer := by rfl) (hfr : X.env.frame = some X.env.locals := by rfl) (hi : X.N[i]? = some n := by rfl) (hln : X.env.kindOf n = some .local := by rfl) :
    S1 X W ρ (.Try body [.ExceptHandler (some (.Name x np)) (some n) (b₀ :: suite) pos'] [] [] pos) Φ := fun c τ σ H tm s D P => by
  refine ts_of (L2.ps_try_as (i := i) (tb := fun W' D σ H => ∀ pn xe, L2.Takes (X.tr pn xe) W' → PassesOwn (model X.prog X.w) X.A X.env xe → tbS (X.tr pn xe) body D σ H)
    (ts := fun a cls d D σ H => ∀ oe pn, L2.Zc cls d oe → (∃ vs, oe.data = .fields vs) → tbS (X.suite a ((a, oe) :: pn)) (b₀ :: suite) D σ H) hst hfr Y.nd hi hln hc Y.takes
    (fun W' pn xe tk ps => ⟨fun pins s0 σ H D I h => h pn xe tk ps pins s0 I⟩) (fun a oe cls d pn hz hf => ⟨fun pins s0 σ H D I h => h oe pn hz hf pins s0 I⟩)) ?_
  intro pn xe tk ps
  refine hb _ pn xe ⟨Y.calm, Y.nd, tk, ps, Y.room⟩ c τ σ H tm s D ⟨P.nx, P.rt, P.bk, P.ct, fun cls ρ' σ' H' q s' => ?_⟩
  obtain ⟨hl, b, e, h1, h2⟩ := hx cls ρ' q
  refine ⟨b, e, fun hbt a na oe pn' hz hf => ?_, fun hbf => P.ex _ _ _ _ (h2 hbf) s'⟩
  have s1 : St X.K c (ρ'.set i (some (.d (.adr a)))) τ (σ'.set i (some (.ref a))) H' := (s'.push (v := .ref a) (x := .adr a) fun _ => .adr a).store hl tm
  exact h1 hbt a oe pn' hz hf c τ _ H' tm s1 _ ⟨fun ρ4 σ4 H4 q s4 => P.nx _ _ _ q (s4.forget tm), fun t ρ4 v σ4 H4 q s4 => P.rt t ρ4 v σ4 H4 q s4, fun ρ4 σ4 H4 q s4 => P.bk _ _ _ q (s4.forget tm), fun ρ4 σ4 H4 q s4 => P.ct _ _ _ q (s4.forget tm), fun _ _ _ _ z => z.elim⟩
/-- isinstance(e, X), e what the suite holds, X an own class -/
theorem e_isE {a0 : Addr} {oe : Obj} {pn : List (Addr × Obj)} {a b : Expr} {D B : Addr} {z : Bool} {p : Pos} (hm : X.mg "isinstance" = none) (hC : ExcC X.K D) (hz : L2.Zc (.ref D) none oe) (hf : ∃ vs, oe.data = .fields vs)
    (ha : E (X.suite a0 ((a0, oe) :: pn)) ρ a (.tm (.d (.adr a0)))) (hb : E (X.suite a0 ((a0, oe) :: pn)) ρ b (.tm (.d (.adr B)))) (hk : PySem.W.kitOne X.K (.ref D) (.ref B) = some z) (hg : Gl X "isinstance" := by rfl)
    (hst : starEach [a, b] X.env = (false, eval a X.env) :: starEach [b] X.env := by rfl) (hst2 : starEach [b] X.env = (false, eval b X.env) :: starEach [] X.env := by rfl) (hpl : (backTo pos (starEach [b] X.env)).any (·.1) = false := by rfl) :
    E (X.suite a0 ((a0, oe) :: pn)) ρ (.Call (.Name "isinstance" p) [a, b] [] pos) (.tm (.d (.bl z))) := fun c τ σ H s Q q =>
  te_of (pe_callB (call_isE hC hz hf) hg hm (by decide +kernel) (pa_cons peS (pa_cons peS pa_nil hst2) hst) (by decide) (by decide) hst hpl) (ha c τ σ H s _ fun v H1 s1 => hb c _ σ H1 s1 _ fun u H2 s2 => by
    obtain rfl := s2.vadr
    obtain rfl := s2.pop.vadr
    exact ⟨.ref B, .ref B, z, rfl, fun _ h => h, hk, q _ _ (s2.pop.pop.push fun _ => .bl z)⟩)
/-- .. X a built-in class -/
theorem e_isEB {a0 : Addr} {oe : Obj} {pn : List (Addr × Obj)} {a : Expr} {D : Addr} {z : Bool} {zz : String} {nm : Str} {p p2 : Pos} (hm : X.mg "isinstance" = none) (hm2 : X.mg nm = none) (hC : ExcC X.K D) (hz : L2.Zc (.ref D) none oe) (hf : ∃ vs, oe.data = .fields vs)
    (ha : E (X.suite a0 ((a0, oe) :: pn)) ρ a (.tm (.d (.adr a0)))) (hk : PySem.W.kitOne X.K (.ref D) (.type zz) = some z) (hb : bootBuiltins nm = some (.type zz)) (hg : Gl X "isinstance" := by rfl) (hg2 : Gl X nm := by rfl) (hn : nm ≠ "__name__" := by decide) (hdb : (nm == ("__debug__" : Str)) = false := by decide)
    (hst : starEach [a, .Name nm p2] X.env = (false, eval a X.env) :: starEach [.Name nm p2] X.env := by rfl) (hst2 : starEach [.Name nm p2] X.env = (false, eval (.Name nm p2) X.env) :: starEach [] X.env := by rfl) (hpl : (backTo pos (starEach [.Name nm p2] X.env)).any (·.1) = false := by rfl) :
    E (X.suite a0 ((a0, oe) :: pn)) ρ (.Call (.Name "isinstance" p) [a, .Name nm p2] [] pos) (.tm (.d (.bl z))) := fun c τ σ H s Q q =>
  te_of (pe_callB (call_isE hC hz hf) hg hm (by decide +kernel) (pa_cons peS (pa_cons (pe_bltn (X := X.suite a0 ((a0, oe) :: pn)) (v := .ty zz) hg2 hm2 hb rfl hn hdb) pa_nil hst2) hst) (by decide) (by decide) hst hpl) (ha c τ σ H s _ fun v H1 s1 => by
    obtain rfl := s1.vadr
    exact ⟨.ty zz, .type zz, z, rfl, fun _ h => h, hk, q _ _ (s1.pop.push fun _ => .bl z)⟩)
end
end DL
namespace DL
open PySem PySem.Spec PyProof.Rows L2
def EAR (X : Cx) (ρ : Rho) (es : List Expr) (rs : List R) : Prop := ∀ c τ σ H, St X.K c ρ τ σ H → ∀ Q : List V → Hp → Prop, (∀ vs H', vs.length = rs.length → St X.K c ρ ((vs.zip rs).reverse ++ τ) σ H' → Q vs H') → taS X es σ H Q
section
variable {X : Cx} {W : WX} {ρ : Rho} {Φ : Ph} {e : Expr} {es : List Expr} {ts : List T} {t : T} {nm : Str} {k j : Nat} {S : Spec} {pos p : Pos} {r : R} {rs : List R}
theorem er_nil : EAR X ρ [] [] := fun c τ σ H s Q q => ta_of pa_nil (q [] H rfl s)
theorem er_cons (h : E X ρ e r) (h2 : EAR X ρ es rs) (hs : starEach (e :: es) X.env = (false, eval e X.env) :: starEach es X.env := by rfl) : EAR X ρ (e :: es) (r :: rs) := fun c τ σ H s Q q =>
  ta_of (pa_cons peS paS hs) (h c τ σ H s _ fun v H1 s1 => h2 c _ σ H1 s1 _ fun vs H2 hl s2 => q (v :: vs) H2 (by simp [hl]) (by simpa [List.zip_cons_cons, List.reverse_cons, List.append_assoc] using s2))
theorem St.popAll {K : PySem.W.Frag} {c : Cst} {σ : L2.St} {H : Hp} {τ : List (V × R)} : ∀ {l : List (V × R)}, St K c ρ (l ++ τ) σ H → St K c ρ τ σ H
  | [], s => s
  | x :: l, s => St.popAll (l := l) (St.pop s)
theorem St.seeIn {K : PySem.W.Frag} {c : Cst} {σ : L2.St} {H : Hp} {τ l1 l2 : List (V × R)} {v : V} (s : St K c ρ (l1 ++ (v, r) :: l2 ++ τ) σ H) (e : view ρ r = some t) : Dr K H v t.toD := by
  have : St K c ρ ((v, r) :: (l1 ++ l2 ++ τ)) σ H := s.perm (by
    rw [List.append_assoc, List.append_assoc]
    exact List.perm_middle)
  exact this.see e
theorem St.seeAll {K : PySem.W.Frag} {c : Cst} {σ : L2.St} {H : Hp} {τ : List (V × R)} {vs : List V} (s : St K c ρ ((vs.zip rs).reverse ++ τ) σ H) (hl : vs.length = rs.length) (hv : rs.map (view ρ) = ts.map some) : Drs K H vs (ts.map T.toD) := by
  have key : ∀ (q : V × R) (t : T), q ∈ vs.zip rs → view ρ q.2 = some t → Dr K H q.1 t.toD := fun q t hq e => by
    obtain ⟨l1, l2, e1⟩ := List.append_of_mem (List.mem_reverse.mpr hq)
    rw [e1] at s
    exact St.seeIn (v := q.1) (r := q.2) s e
  clear s
  induction vs generalizing rs ts with
  | nil =>
    cases rs with
    | nil => cases ts with
      | nil => exact .nil
      | cons t ts => cases hv
    | cons r rs => cases hl
  | cons v vs ih =>
    cases rs with
    | nil => cases hl
    | cons r rs =>
      cases ts with
      | nil => cases hv
      | cons t ts =>
        simp only [List.map_cons, List.cons.injEq] at hv
        exact .cons (key (v, r) t List.mem_cons_self hv.1) (ih (by simpa using hl) hv.2 fun q t hq e => key q t (List.mem_cons_of_mem _ hq) e)
/-- a call that lends its arguments; what comes back hangs on none of them -/
theorem call_genF (F : Kn X.prog X.w X.K X.mg X.base nm k S) (hr : Room k X.A) (tk : Takes X W) (ha : EAR X ρ (e :: es) rs) (x : S.α) (ts : List T) (hv : rs.map (view ρ) = ts.map some) (hts : ts.map T.toD = S.enc x) (hpre : S.pre x) {c : Cst} {τ : List (V × R)} {σ : L2.St} {H : Hp} (s : St X.K c ρ τ σ H) {Q : VK}
    (hfl : ∀ t, S.post x t → t.flat = true) (hQ : ∀ t, S.post x t → ∀ v H', St X.K c ρ ((v, .tm t) :: τ) σ H' → Q v H') (hE : ∀ cls, S.exc x cls → ∀ H', St X.K c ρ τ σ H' → W cls none σ H') (hg : Gl X nm := by rfl) (hdb : (nm == ("__debug__" : Str)) = false := by decide)
    (he : starEach (e :: es) X.env = (false, eval e X.env) :: starEach es X.env := by rfl) (hpl : (backTo pos (starEach es X.env)).any (·.1) = false := by rfl) : teS X (.Call (.Name nm p) (e :: es) [] pos) σ H Q := by
  obtain ⟨f, fd, ps, F, hm, hk, hb⟩ := F
  refine te_of (pe_callS (E := WE W) F hr hg hm hk hb (fun σ => passAt tk σ) paS hdb he hpl) (ha c τ σ H s _ fun vs H1 hl s1 => ?_)
  have dr := s1.seeAll hl hv
  rw [hts] at dr
  have s2 : St X.K c ρ τ σ H1 := St.popAll s1
  refine ⟨H1, x, Same.refl _, dr, hpre, fun t ht v H' G' fp af w nd fr => hQ t ht v H' ?_, fun cls hc H' sm => hE cls hc H' (s2.same sm)⟩
  obtain ⟨G, fs, ft, C, L, M⟩ := s2
  refine St.after C L M (G' := G) ⟨af.same, C.sub.trans af.same, Same.refl _, fun a o q => .inl ⟨o, q⟩⟩ (w.flat (G' := G) _ _ _ (hfl t ht)) nd fun a m => ⟨?_, (fr a m).2⟩
  cases q : G a with
  | none => rfl
  | some o => have := C.sub a o q; rw [(fr a m).2] at this; cases this
theorem e_callF (F : Kn X.prog X.w X.K X.mg X.base nm k S) (hr : Room k X.A) (ha : EAR X ρ (e :: es) rs) (x : S.α) (ts : List T) (hv : rs.map (view ρ) = ts.map some) (hts : ts.map T.toD = S.enc x) (hpre : S.pre x) (hp : ∀ t', S.post x t' → t' = t) (hx : ∀ cls, ¬ S.exc x cls) (hfl : t.flat = true := by rfl) (hg : Gl X nm := by rfl) (hdb : (nm == ("__debug__" : Str)) = false := by decide)
    (he : starEach (e :: es) X.env = (false, eval e X.env) :: starEach es X.env := by rfl) (hpl : (backTo pos (starEach es X.env)).any (·.1) = false := by rfl) : E X ρ (.Call (.Name nm p) (e :: es) [] pos) (.tm t) := fun c τ σ H s Q q =>
  call_genF (W := fun _ _ _ _ => False) F hr takes0 ha x ts hv hts hpre s (fun t' ht => hp t' ht ▸ hfl) (fun t' ht v H' s' => q v H' (hp t' ht ▸ s')) (fun cls h => (hx cls h).elim) hg hdb he hpl
/-- x = f(..) -/
theorem s_callF (n : Nat) {x0 : Str} {pos' : Pos} (Y : Bx X W j) (F : Kn X.prog X.w X.K X.mg X.base nm k S) (hr : Room k X.A) (ha : EAR X ρ (e :: es) rs) (x : S.α) (ts : List T) (hv : rs.map (view ρ) = ts.map some) (hts : ts.map T.toD = S.enc x) (hpre : S.pre x)
    (hfl : ∀ t, S.post x t → t.flat = true) (hp : ∀ t, S.post x t → Φ.nx (ρ.set n (some t))) (hx : ∀ cls, S.exc x cls → Φ.ex cls ρ) (hρ : Nat.ble (n + 1) ρ.length = true := by rfl) (hi : X.N[n]? = some x0 := by rfl) (hl : Loc X.env.scope x0 := by first | exact Or.inl rfl | exact Or.inr rfl)
    (hf : X.fn x0 = true ∨ X.env.scope.names.lookup x0 = some .local := by first | exact .inl rfl | exact .inr rfl | assumption) (hg : Gl X nm := by rfl) (hdb : (nm == ("__debug__" : Str)) = false := by decide)
    (he : starEach (e :: es) X.env = (false, eval e X.env) :: starEach es X.env := by rfl) (hpl : (backTo pos (starEach es X.env)).any (·.1) = false := by rfl) {spos : Pos} (hs : swapsWith (.Call (.Name nm p) (e :: es) [] pos) (some (.Name x0 pos')) spos.line X.env = pure false := by rfl) :
    S1 X W ρ (.Assign [.Name x0 pos'] (.Call (.Name nm p) (e :: es) [] pos) spos) Φ := fun c τ σ H tm s D P =>
  ts_of (ps_set Y.nd hi hl peS hs hf) (call_genF F hr Y.takes ha x ts hv hts hpre s hfl (fun t ht v H' s' => P.nx _ _ _ (hp t ht) (s'.store (Nat.le_of_ble_eq_true hρ) tm)) (fun cls h H' s' => P.ex _ _ _ _ (hx cls h) s') hg hdb he hpl)
/-- f(..) alone -/
theorem s_callFE (Y : Bx X W j) (F : Kn X.prog X.w X.K X.mg X.base nm k S) (hr : Room k X.A) (ha : EAR X ρ (e :: es) rs) (x : S.α) (ts : List T) (hv : rs.map (view ρ) = ts.map some) (hts : ts.map T.toD = S.enc x) (hpre : S.pre x)
    (hfl : ∀ t, S.post x t → t.flat = true) (hp : ∀ t, S.post x t → Φ.nx ρ) (hx : ∀ cls, S.exc x cls → Φ.ex cls ρ) {spos : Pos} (hs : swapsWith (.Call (.Name nm p) (e :: es) [] pos) none spos.line X.env = pure false := by rfl) (hg : Gl X nm := by rfl) (hdb : (nm == ("__debug__" : Str)) = false := by decide)
    (he : starEach (e :: es) X.env = (false, eval e X.env) :: starEach es X.env := by rfl) (hpl : (backTo pos (starEach es X.env)).any (·.1) = false := by rfl) : S1 X W ρ (.Expr (.Call (.Name nm p) (e :: es) [] pos) spos) Φ := fun c τ σ H tm s D P =>
  ts_of (ps_expr peS hs) (call_genF F hr Y.takes ha x ts hv hts hpre s hfl (fun t ht v H' s' => P.nx _ _ _ (hp t ht) s'.pop) (fun cls h H' s' => P.ex _ _ _ _ (hx cls h) s') hg hdb he hpl)
/-- return f(..) -/
theorem s_callFR (Y : Bx X W j) (F : Kn X.prog X.w X.K X.mg X.base nm k S) (hr : Room k X.A) (ha : EAR X ρ (e :: es) rs) (x : S.α) (ts : List T) (hv : rs.map (view ρ) = ts.map some) (hts : ts.map T.toD = S.enc x) (hpre : S.pre x)
    (hfl : ∀ t, S.post x t → t.flat = true) (hp : ∀ t, S.post x t → Φ.rt t ρ) (hx : ∀ cls, S.exc x cls → Φ.ex cls ρ) {spos : Pos} (hg : Gl X nm := by rfl) (hdb : (nm == ("__debug__" : Str)) = false := by decide)
    (he : starEach (e :: es) X.env = (false, eval e X.env) :: starEach es X.env := by rfl) (hpl : (backTo pos (starEach es X.env)).any (·.1) = false := by rfl) : S1 X W ρ (.Return (some (.Call (.Name nm p) (e :: es) [] pos)) spos) Φ := fun c τ σ H tm s D P =>
  ts_of (ps_ret peS) (call_genF F hr Y.takes ha x ts hv hts hpre s hfl (fun t ht v H' s' => P.rt _ _ _ _ _ (hp t ht) s') (fun cls h H' s' => P.ex _ _ _ _ (hx cls h) s') hg hdb he hpl)
end
section
variable {K : PySem.W.Frag} {c : Cst} {ρ : Rho} {τ : List (V × R)} {σ : L2.St} {H : Hp} {n : Nat} {p : List Nat} {t0 : T} {xs ys : List T}
theorem St.mut1 {ar : Addr} {vs vs' : List V} (s : St K c ρ ((.ref ar, .pl n p) :: τ) σ H) (tm : TmOnly τ) (et : ρ[n]? = some (some t0)) (ep : T.at p t0 = some (.lst xs)) (hH : H ar = some (.lst vs))
    (f : ∀ G g, Owns K G H vs xs g → ∃ g' g2, g'.Perm g2 ∧ g2.Sublist g ∧ Owns K G H vs' ys g') : St K c (ρ.set n (some (T.put p t0 (.lst ys)))) τ σ (upd H ar (.lst vs')) := by
  refine (StA.nil s).mut tm et ep fun G g fa sb w A nd nG => ?_
  cases A
  obtain ⟨a3, v3, g3, q1, q2, q3, q4⟩ := w.is_lst
  cases q1
  rw [hH] at q3
  cases q3
  subst q2
  obtain ⟨g', g2, h1, h2, h3⟩ := f G g3 q4
  have na : ar ∉ g3 := by
    rw [List.append_nil] at nd
    exact (List.nodup_cons.mp nd).1
  refine ⟨ar :: g', ar :: g2, List.mem_cons_self, h1.cons _, by rw [List.append_nil]; exact h2.cons₂ _, .lst upd_same (h3.keep (Same.refl _) _ _ _ (On.upd fun m => na (h2.subset (h1.mem_iff.mp m))))⟩
theorem Owns.reverse {G : Hp} : ∀ {vs : List V} {xs : List T} {g : List Addr}, Owns K G H vs xs g → ∃ g', g'.Perm g ∧ Owns K G H vs.reverse xs.reverse g'
  | [], [], _, h => by cases h; exact ⟨[], .refl _, .nil⟩
  | v :: vs, t :: ts, _, h => by
    cases h with | @cons _ _ _ _ f1 f2 h1 h2 =>
    obtain ⟨g', q1, q2⟩ := Owns.reverse h2
    refine ⟨g' ++ (f1 ++ []), ?_, ?_⟩
    · rw [List.append_nil]
      exact (q1.append_right f1).trans List.perm_append_comm
    · rw [List.reverse_cons, List.reverse_cons]
      exact q2.append (.cons h1 .nil)
  | [], _ :: _, _, h => by cases h
  | _ :: _, [], _, h => by cases h
/-- a temporary list let go -/
theorem St.scrap {ts : List T} {v : V} (s : St K c ρ ((v, .tm (.lst ts)) :: τ) σ H) : ∃ ar vs, v = .ref ar ∧ H ar = some (.lst vs) ∧ ∀ o, St K c ρ τ σ (upd H ar o) := by
  obtain ⟨G, fs, ft, C, L, M⟩ := s
  cases M with | @tm _ _ _ f1 f2 h1 h2 =>
  obtain ⟨ar, vs, g, e1, e2, e3, e4⟩ := h1.is_lst
  subst e1 e2
  have P1 : (fs ++ ((ar :: g) ++ f2)).Perm (ar :: (g ++ (fs ++ f2))) := by
    rw [List.perm_iff_count]; intro z; simp only [List.count_append, List.count_cons]; omega
  have C1 := C.perm P1
  have na := (List.nodup_cons.mp C1.nd).1
  obtain ⟨ga, oa⟩ := C1.own ar List.mem_cons_self
  refine ⟨ar, vs, rfl, e3, fun o => ⟨G, fs, f2, ⟨fun b q e => ?_, C.base, C.newG, fun b q e nf => ?_, fun b q e => ?_, ?_, fun b m => ?_⟩, ?_, ?_⟩⟩
  · have hb : b ≠ ar := fun z => by rw [z, ga] at e; cases e
    rw [upd_ne hb]; exact C.sub b q e
  · have hb : b ≠ ar := fun z => by
      subst z
      rcases oa with y | y
      · exact nf y
      · rw [y] at e; cases e
    rw [upd_ne hb]; exact C.prot b q e nf
  · by_cases hb : b = ar
    · subst hb; exact ⟨_, upd_same⟩
    · rw [upd_ne hb]; exact C.there b q e
  · exact (List.nodup_append.mp (List.nodup_cons.mp C1.nd).2).2.1
  · exact C1.own b (List.mem_cons_of_mem _ (List.mem_append_right _ m))
  · exact L.keep (Same.refl _) (On.upd fun m => na (List.mem_append_right _ (List.mem_append_left _ m)))
  · exact h2.keepS (Same.refl _) L (On.upd fun m => na (List.mem_append_right _ (List.mem_append_left _ m))) (On.upd fun m => na (List.mem_append_right _ (List.mem_append_right _ m)))
end
section
variable {X : Cx} {W : WX} {ρ : Rho} {Φ : Ph} {o e : Expr} {t t0 : T} {xs : List T} {apos cpos spos : Pos} {n k : Nat} {p : List Nat} {i : Int}
/-- x.reverse() -/
theorem s_reverse (ho : E X ρ o (.pl n p)) (et : ρ[n]? = some (some t0)) (ep : T.at p t0 = some (.lst xs)) (h : Φ.nx (ρ.set n (some (T.put p t0 (.lst xs.reverse)))))
    (hbase : attributeBase o "reverse" X.env (eval o X.env) = eval o X.env := by rfl) (hline : (apos.endLine == cpos.line) = true := by rfl) (hsw : swapsWith (.Call (.Attribute o "reverse" apos) [] [] cpos) none spos.line X.env = pure false := by rfl) :
    S1 X W ρ (.Expr (.Call (.Attribute o "reverse" apos) [] [] cpos) spos) Φ := fun c τ σ H tm s D P =>
  ts_of (ps_expr (pe_bm0 PySem.F.plainAttrs_list PySem.F.slot_list_reverse PySem.F.type_list_reverse mt_reverse peS hbase hline) hsw) (ho c τ σ H s _ fun v H1 s1 => by
    obtain ⟨G, f, sb, w, _⟩ := s1.top (view_pl et ep)
    obtain ⟨ar, vs, g, e1, _, e2, e3⟩ := w.is_lst
    subst e1
    refine ⟨.inl ⟨rfl, _, SqL.of e2⟩, ar, vs, rfl, rfl, e2, P.nx _ _ _ h (s1.mut1 tm et ep e2 fun G g q => ?_)⟩
    obtain ⟨g', h1, h2⟩ := Owns.reverse q
    exact ⟨g', g, h1, .refl _, h2⟩)
/-- E.clear(), E a list that nobody holds -/
theorem s_clearT (ho : E X ρ o (.tm (.lst xs))) (h : Φ.nx ρ)
    (hbase : attributeBase o "clear" X.env (eval o X.env) = eval o X.env := by rfl) (hline : (apos.endLine == cpos.line) = true := by rfl) (hsw : swapsWith (.Call (.Attribute o "clear" apos) [] [] cpos) none spos.line X.env = pure false := by rfl) :
    S1 X W ρ (.Expr (.Call (.Attribute o "clear" apos) [] [] cpos) spos) Φ := fun c τ σ H tm s D P =>
  ts_of (ps_expr (pe_bm0 PySem.F.plainAttrs_list PySem.F.slot_list_clear PySem.F.type_list_clear mt_clear peS hbase hline) hsw) (ho c τ σ H s _ fun v H1 s1 => by
    obtain ⟨ar, vs, e1, e2, q⟩ := s1.scrap
    subst e1
    exact ⟨.inl ⟨rfl, _, SqL.of e2⟩, ar, vs, rfl, rfl, e2, P.nx _ _ _ h (q _)⟩)
end
section
variable {K : PySem.W.Frag} {c : Cst} {ρ : Rho} {τ : List (V × R)} {σ : L2.St} {H : Hp} {n : Nat} {t t2 : T}
/-- the slot's tree and a temporary, as an argument list: the slot is emptied -/
theorem St.mv {v u : V} (s : St K c ρ ((u, .tm t2) :: (v, .pl n []) :: τ) σ H) (et : ρ[n]? = some (some t)) (tm : TmOnly τ) : StA K c (ρ.set n (some (.d .non))) [v, u] [t, t2] τ (σ.set n (some .non)) H := by
  obtain ⟨G, fs, ft, C, L, M⟩ := s
  cases M with | @tm _ _ _ f1 f2 h1 h2 =>
  cases h2 with | @pl _ _ _ _ u0 t0 s0 f a1 a2 a3 a4 h3 =>
  obtain ⟨w, l1, g, l2, b1, b2, b3, b4⟩ := L.get et
  rw [a1] at b1
  cases b1
  have e4 : u0 = v := by simpa [atV] using a4
  subst e4
  have z := b4 G H .non (.d .non) [] (Same.refl _) (.of (Same.refl _)) (.d .non)
  subst b2
  refine ⟨G, _, g ++ (f1 ++ []), f2, C.perm ?_, z, .cons b3 (.cons h1 .nil), h3.move (Same.refl _) tm (.of (Same.refl _))⟩
  rw [List.perm_iff_count]
  intro y
  simp only [List.count_append, List.append_nil]
  omega
/-- .. the temporary first -/
theorem St.mv2 {v u : V} (s : St K c ρ ((v, .pl n []) :: (u, .tm t2) :: τ) σ H) (et : ρ[n]? = some (some t)) (tm : TmOnly τ) : StA K c (ρ.set n (some (.d .non))) [u, v] [t2, t] τ (σ.set n (some .non)) H := by
  obtain ⟨G, fs, ft, C, L, M⟩ := s
  cases M with | @pl _ _ _ _ u0 t0 s0 f a1 a2 a3 a4 h3 =>
  cases h3 with | @tm _ _ _ f1 f2 h1 h2 =>
  obtain ⟨w, l1, g, l2, b1, b2, b3, b4⟩ := L.get et
  rw [a1] at b1
  cases b1
  have e4 : u0 = v := by simpa [atV] using a4
  subst e4
  have z := b4 G H .non (.d .non) [] (Same.refl _) (.of (Same.refl _)) (.d .non)
  subst b2
  refine ⟨G, _, f1 ++ (g ++ []), f2, C.perm ?_, z, .cons h1 (.cons b3 .nil), h2.move (Same.refl _) tm (.of (Same.refl _))⟩
  rw [List.perm_iff_count]
  intro y
  simp only [List.count_append, List.append_nil]
  omega
end
section
variable {X : Cx} {W : WX} {ρ : Rho} {Φ : Ph} {a b : Expr} {t t2 : T} {pos pos2 : Pos} {n : Nat}
/-- return (e, x), x's tree given away -/
theorem s_retMv2 {x1} (n : Nat) (ha : E X ρ a (.tm t2)) (hb : E X ρ b (.pl n [])) (et : ρ[n]? = some (some t) := by rfl) (h : Φ.rt (.tup [t2, t]) (ρ.set n (some (.d .non))))
    (hs : starEach [a, b] X.env = (false, eval a X.env) :: starEach [b] X.env := by rfl) (hs2 : starEach [b] X.env = (false, eval b X.env) :: starEach [] X.env := by rfl) :
    S1 X W ρ (.Return (some (.Tuple [a, b] x1 pos2)) pos) Φ := fun c τ σ H tm s D P =>
  ts_of (ps_ret (pe_tup (pa_cons peS (pa_cons peS pa_nil hs2) hs))) (ha c τ σ H s _ fun v H1 s1 => hb c _ σ H1 s1 _ fun u H2 s2 => by
    refine ⟨(by decide : 2 ≤ sizeLine), fun p hp => ?_⟩
    exact P.rt _ _ _ _ _ h ((s2.mv2 et tm).new hp fun G fa _ w => ⟨fa, .refl _, .tup upd_same w⟩))
/-- return (x, e), x's tree given away -/
theorem s_retMv {x1} (n : Nat) (ha : E X ρ a (.pl n [])) (hb : E X ρ b (.tm t2)) (et : ρ[n]? = some (some t) := by rfl) (h : Φ.rt (.tup [t, t2]) (ρ.set n (some (.d .non))))
    (hs : starEach [a, b] X.env = (false, eval a X.env) :: starEach [b] X.env := by rfl) (hs2 : starEach [b] X.env = (false, eval b X.env) :: starEach [] X.env := by rfl) :
    S1 X W ρ (.Return (some (.Tuple [a, b] x1 pos2)) pos) Φ := fun c τ σ H tm s D P =>
  ts_of (ps_ret (pe_tup (pa_cons peS (pa_cons peS pa_nil hs2) hs))) (ha c τ σ H s _ fun v H1 s1 => hb c _ σ H1 s1 _ fun u H2 s2 => by
    refine ⟨(by decide : 2 ≤ sizeLine), fun p hp => ?_⟩
    exact P.rt _ _ _ _ _ h ((s2.mv et tm).new hp fun G fa _ w => ⟨fa, .refl _, .tup upd_same w⟩))
/-- return x, x's tree given away -/
theorem s_retV (n : Nat) (ha : E X ρ a (.pl n [])) (et : ρ[n]? = some (some t) := by rfl) (h : Φ.rt t (ρ.set n (some (.d .non)))) :
    S1 X W ρ (.Return (some a) pos) Φ := fun c τ σ H tm s D P =>
  ts_of (ps_ret peS) (ha c τ σ H s _ fun v H1 s1 => by
    obtain ⟨G, fs, ft, C, L, M⟩ := s1
    cases M with | @pl _ _ _ _ u0 t0 s0 f a1 a2 a3 a4 h3 =>
    obtain ⟨w, l1, g, l2, b1, b2, b3, b4⟩ := L.get et
    rw [a1] at b1
    cases b1
    have e4 : u0 = v := by simpa [atV] using a4
    subst e4
    have z := b4 G H1 .non (.d .non) [] (Same.refl _) (.of (Same.refl _)) (.d .non)
    subst b2
    refine P.rt _ _ _ _ _ h ⟨G, _, g ++ ft, C.perm ?_, z, .tm b3 (h3.move (Same.refl _) tm (.of (Same.refl _)))⟩
    rw [List.perm_iff_count]
    intro y
    simp only [List.count_append, List.append_nil]
    omega)
end
end DL
namespace DL
open PySem PySem.Spec PyProof.Rows L2
inductive Fx where
  | exc (x : Str) | he (x y : Str) | kit (x y : Str) (z : Bool) | kitB (x : Str) (y : String) (z : Bool)
def excCB (K : PySem.W.Frag) (D : Addr) : Bool :=
  He.eqO (PySem.W.findIn K (.ref D) "__getattribute__") (some (some (.builtin "BaseException.__getattribute__"))) && (He.eqO (PySem.W.findIn K (.ref D) "__getattr__") (some none) && (decide (PySem.W.subIn K (.ref D) (.type "BaseException") = some true) && (PySem.W.hasDictIn K D &&
  (He.eqO (PySem.W.findIn K (.ref D) "__class__") (some (some (.builtin "object.__class__"))) && (He.eqO (PySem.W.specialIn K (.builtin "object.__class__") "__get__") (some (some (.builtin "getset_descriptor.__get__"))) && (decide (PySem.W.takesIn K (.builtin "object.__class__") = some true) && decide (PySem.W.mroIn K D (.type "object") = some true)))))))
theorem excCB_ok {K : PySem.W.Frag} {D : Addr} (h : excCB K D = true) : ExcC K D := by
  obtain ⟨h1, h⟩ := He.ba h
  obtain ⟨h2, h⟩ := He.ba h
  obtain ⟨h3, h⟩ := He.ba h
  obtain ⟨h4, h⟩ := He.ba h
  obtain ⟨h5, h⟩ := He.ba h
  obtain ⟨h6, h⟩ := He.ba h
  obtain ⟨h7, h8⟩ := He.ba h
  exact ⟨He.eqO_ok h1, He.eqO_ok h2, of_decide_eq_true h3, h4, He.eqO_ok h5, He.eqO_ok h6, of_decide_eq_true h7, of_decide_eq_true h8⟩
def Fx.ok (K : PySem.W.Frag) : Fx → Bool
  | .exc x => excCB K (He.ga K x)
  | .he x y => decide (PySem.W.exmOne K (.ref (He.ga K x)) (.ref (He.ga K y)) = some true)
  | .kit x y z => decide (PySem.W.kitOne K (.ref (He.ga K x)) (.ref (He.ga K y)) = some z)
  | .kitB x y z => decide (PySem.W.kitOne K (.ref (He.ga K x)) (.type y) = some z)
def obsY (n : Nat) (fa : List He.Fa) (fn : List He.DefD) (fx : List Fx) (g : Addr → Option Obj) : He.AlD × Bool := (He.obsD fa fn (He.frG g (He.asD g n)), fx.all fun f => f.ok (He.frG g (He.asD g n)))
structure SaysY (fa : List He.Fa) (fn : List He.DefD) (fx : List Fx) (K : PySem.W.Frag) : Prop where
  d : He.SaysD fa fn K
  x : (fx.all fun f => f.ok K) = true
def hookY (n : Nat) (fa : List He.Fa) (fn : List He.DefD) (fx : List Fx) : PySem.W.Hook where
  α := He.AlD × Bool
  obs := fun s => obsY n fa fn fx s.heap.get?
  val := fun _ => (He.valD fn, true)
  says := fun _ h => ∃ K : PySem.W.Frag, K.In h ∧ SaysY fa fn fx K
  of := fun _ _ e => ⟨_, He.frG_in, congrArg (fun z : He.AlD × Bool => z.1) e, congrArg (fun z : He.AlD × Bool => z.2) e⟩
  keeps := fun _ _ _ ⟨K, hK, c⟩ k => ⟨K, PySem.W.Frag.In.keeps hK k, c⟩
theorem obsY_eq {n : Nat} {fa : List He.Fa} {fn : List He.DefD} {fx : List Fx} {g : Addr → Option Obj} {s : Shared} (h : ∀ a, g a = s.heap.get? a) : obsY n fa fn fx g = (hookY n fa fn fx).obs s := by
  have e : g = s.heap.get? := funext h
  rw [e] <;> rfl
section
variable {fa : List He.Fa} {fn : List He.DefD} {fx : List Fx} {K : PySem.W.Frag}
theorem SaysY.fact (c : SaysY fa fn fx K) (i : Nat) {f : He.Fa} (h : fa[i]? = some f := by rfl) : f.ok K = true := c.d.fact i h
theorem SaysY.xf (c : SaysY fa fn fx K) (i : Nat) {f : Fx} (h : fx[i]? = some f := by rfl) : f.ok K = true := List.all_eq_true.mp c.x f (List.mem_of_getElem? h)
def dD (p : Str × Option Str) (x qual : Str) (st : Stmt) : He.DefD := ⟨p, x, qual, defArgs st, defBody st, defScope st, [], []⟩
theorem SaysY.fun_ (c : SaysY fa fn fx K) (i : Nat) {p : Str × Option Str} {x qual : Str} {st : Stmt} (h : fn[i]? = some (dD p x qual st) := by rfl) : ∃ fd, Fun K x qual st (He.fAd K p) fd := by
  obtain ⟨fd, F⟩ := c.d.def_ i h
  have F : FunD K x qual (defArgs st) (defBody st) (defScope st) [] [] (He.fAd K p) fd := F
  obtain ⟨oc, od, dV, kV, doc, pm, an, cdv, ct, osl, e, lk, hcd, hD, hK⟩ := F.ex
  rcases hD with ⟨_, rfl⟩ | ⟨z, _⟩
  · exact ⟨fd, ⟨oc, od, kV, doc, pm, an, cdv, ct, osl, e, lk, hcd⟩, F.kp⟩
  · exact absurd rfl z
end
def spLaw : Spec where
  α := List Int
  enc := fun ns => [.scr ns]
  pre := fun ns => ns.length ≤ 63
  post := fun _ t => t = .d (.bl true)
theorem cx_no {P : Program} {w : World} {H : Hp} {s : Shared} {e : Value} {s' : Shared} (h : L2.CX P w [] H s (fun _ _ _ => False) e s') : False := by
  obtain ⟨_, _, _, _, _, _, _, _, _, _, _, _, z⟩ := h
  exact z
theorem walk_law {l : PySem.W.OpenLaw} {k : Nat} {q : Program} {loose : List Str} {XP : (Str → Option Value) → Heap → Prop} {YP : World → Heap → Prop} {d : DefRec} {x : Str}
    (hn : l.most = some 63) (hdf : d.params.defaults = []) (hr : Room k callerA)
    (F : ∀ (w : World) (mg : Str → Option Value) (fa : Addr) (h : Heap), YP w h → h.Ns mainGlobals mg → mg d.name = some (.ref fa) →
      ∃ (K : PySem.W.Frag) (fd : FuncData), K.In h ∧ (∀ (s : Shared) (u : Value), BindsTo s fd ⟨[u], []⟩ [(x, u)]) ∧ ∀ base : Heap, K.In base → base.Ns mainGlobals mg → FnOk l.prog w K mg base (L2.CX l.prog w) k fa fd [x] (SpD K spLaw)) :
    PySem.W.WalkO q loose XP YP l.row.toRowW d [] (fun f vs => PySem.call f vs) := by
  refine Att.attach_call hn hdf fun w s₀ s₁ mg mb fa o pm cd doc a vs ns G Y ho hd hcd hmg hobj hints hlen hg => ?_
  obtain ⟨K, fd, KX, hb, hF⟩ := F w mg fa _ Y G.T.g hmg
  exact law_call KX G.T.g G.T.b G.T.builtins G.T.nolimit hg hobj hints (Nat.le_trans hlen (by decide)) hr hF hb (fun H hO hS => ⟨H, ns, Same.refl _, .cons (.scr hS) .nil, hlen, fun t ht v H' G' fp _ ow _ _ => by
    cases ht
    cases ow with | d dv =>
    cases dv
    rfl, fun cls z => z.elim⟩) fun H e s' h => cx_no h
end DL
namespace DL
open PySem PySem.Spec PyProof.Rows L2
theorem vals_at {xs : List V} {us : List Value} (h : Vals xs us) {i : Nat} {u : Value} (e : us[i]? = some u) : ∃ x, xs[i]? = some x ∧ RelV x u := by
  induction h generalizing i with
  | nil => simp at e
  | cons a b ih =>
    cases i with
    | zero => simp at e; subst e; exact ⟨_, rfl, a⟩
    | succ i => exact ih (by simpa using e)
def rMinU (K : PySem.W.Frag) : List V → Hp → VK → Prop := fun vs H Q => ∃ (a : Addr) (xs : List V) (d : PyData) (ds : List PyData), vs = [V.ref a] ∧ SqL K H a xs ∧ DpAll K H xs (d :: ds) ∧ PySem.W.AlikeAll (d :: ds) ∧ PyData.depthAll (d :: ds) ≤ 60 ∧
  ∀ (i : Nat) (x : V), xs[i]? = some x → (d :: ds)[i]? = some (PySem.W.minD d ds) → Q x H
open PySem.SeqAt PySem.W in
theorem call_minU {X : Cx} (hc : X.calm = true) (hu : X.A.units + 64 < cLine) : CallR X (.builtin "min") (rMinU X.K) := by
  intro pins s σ H vs us Q I r h
  obtain ⟨a, xs, d, ds, rfl, hs, hd, ha, hdp, q⟩ := h
  obtain ⟨its, rv, hl, _⟩ := I.list hs
  rw [Vals.ref1 r]
  obtain ⟨as, hr⟩ := Dp.readsAll I (d :: ds) xs its hd rv
  have hl' := hl.isList
  have hn : its.toArray.size = ds.length + 1 := by
    have := readsAll_len (vs := its.toArray) (by simpa using hr)
    simpa using this
  have hr' : ReadsAll s.heap its.toArray.toList (d :: ds) as := by simpa using hr
  refine call_min_walkH (iter_listW (A := X.A.in1) (I.ok.hd hc) hl' fun s₂ e Wk st hfp hw hk => ?_)
  refine ⟨_, _, _, _, _, _, _, s.heap, _, rfl, Wk, st, hfp, by omega, hw, hk, cmpIn_lt (A := X.A.in1) hr' ha (by show X.A.units + 1 + _ < _; omega), fun v s' hP m => ?_⟩
  obtain ⟨h', tk, rfl, hk'⟩ := moved_old e rfl m
  have e1 : its.toArray.size - 1 = ds.length := by omega
  obtain ⟨e2, e3⟩ := argBest_fold dataLt PyData.none d ds ds.length (Nat.le_refl _)
  rw [List.take_length] at e3
  rw [e1] at hP
  have hP' : its[argBest (fun i j => dataLt ((d :: ds).getD i .none) ((d :: ds).getD j .none)) ds.length]? = some v := by simpa using hP
  obtain ⟨x, hx, rx⟩ := vals_at rv hP'
  refine ⟨x, H, I.kept hk', rx, q _ x hx ?_⟩
  have lt : argBest (fun i j => dataLt ((d :: ds).getD i .none) ((d :: ds).getD j .none)) ds.length < (d :: ds).length := by rw [List.length_cons]; omega
  rw [List.getElem?_eq_getElem lt]
  have e4 : (d :: ds).getD (argBest (fun i j => dataLt ((d :: ds).getD i .none) ((d :: ds).getD j .none)) ds.length) .none = minD d ds := e3
  rw [List.getD_eq_getElem?_getD, List.getElem?_eq_getElem lt] at e4
  exact congrArg some e4
section
variable {K : PySem.W.Frag} {c : Cst} {ρ : Rho} {τ : List (V × R)} {σ : L2.St} {H : Hp} {v u : V} {r : R} {t : T} {x : D} {ds : List D}
/-- data out of the newest temporary's tree -/
theorem St.topD (h : St K c ρ ((v, r) :: τ) σ H) (e : view ρ r = some t) (k : ∀ G f, Same G H → Own K G H v t f → Dr K G u x) : St K c ρ ((u, .tm (.d x)) :: τ) σ H := by
  obtain ⟨G, fs, ft, C, S, M⟩ := h
  cases M with
  | @tm _ _ t0 f1 f2 h1 h2 =>
    have e' : t0 = t := by simpa [view] using e
    subst e'
    exact ⟨G, fs, [] ++ f2, C.sl ((List.sublist_append_right f1 f2).append_left fs), S, .tm (.d (k G f1 C.sub h1)) h2⟩
  | @pl _ _ i p u t0 s f a1 a2 a3 a4 h2 =>
    have e' : T.at p t0 = some t := by simpa [view, a2] using e
    obtain ⟨v0, l1, f0, l2, b1, b2, b3, _⟩ := S.get a2
    rw [a1] at b1
    cases b1
    obtain ⟨u0, m1, f', m2, c1, c2, c3, _⟩ := b3.focus e'
    rw [a4] at c2
    cases c2
    exact ⟨G, fs, [] ++ ft, C, S, .tm (.d (k G f' C.sub c3)) h2⟩
/-- an item of a list of data -/
theorem St.newItem {ar : Addr} {vs : List V} {k : Nat} (s : St K c ρ ((.ref ar, r) :: τ) σ H) (hv : view ρ r = some t) (hd : isDL t ds) (hx : ds[k]? = some x) (h2 : H ar = some (.lst vs)) (h3 : vs[k]? = some u) : St K c ρ ((u, .tm (.d x)) :: τ) σ H :=
  s.topD hv fun G f sb w => by
    obtain ⟨a2, vs2, k1, k2, k3⟩ := hd.at sb w
    cases k1
    rw [h2] at k2
    cases k2
    obtain ⟨u', g2, g3⟩ := k3.get hx
    rw [h3] at g2
    cases g2
    exact g3
end
def lexI : List Int → List Int → Bool
  | [], [] => false
  | [], _ :: _ => true
  | _ :: _, [] => false
  | x :: xs, y :: ys => if x = y then lexI xs ys else decide (x < y)
def tpI (n : List Int) : D := .tup (n.map D.int)
theorem tpI_py (n : List Int) : (tpI n).py = .tuple (n.map PyData.int) := by
  show PyData.tuple (D.pys (n.map D.int)) = _
  rw [D.pys_map, List.map_map]; rfl
open PySem.SeqAt PySem.W in
theorem lex_toks : ∀ (xs ys : List Int), xs.length = ys.length → PyProof.Rows.lexLt itemOrd (keyToksAll (xs.map PyData.int)) (keyToksAll (ys.map PyData.int)) = lexI xs ys
  | [], [], _ => by simp [lexI]; rfl
  | x :: xs, y :: ys, h => by
    rw [List.map_cons, List.map_cons, dataLt_cons (by rfl), lex_toks xs ys (by simpa using h), dataLt_int]
    show (if PyData.eqv (.int x) (.int y) = true then _ else _) = if x = y then _ else _
    have e : PyData.eqv (.int x) (.int y) = decide (x = y) := eqv_int x y
    rw [e]
    by_cases hxy : x = y <;> simp [hxy]
  | [], _ :: _, h => by simp at h
  | _ :: _, [], h => by simp at h
open PySem.SeqAt PySem.W in
theorem lt_tpI {xs ys : List Int} (h : xs.length = ys.length) : dataLt (tpI xs).py (tpI ys).py = lexI xs ys := by
  rw [tpI_py, tpI_py, dataLt_tuple, lex_toks xs ys h]
/-- the first of the least -/
def minI (n : List Int) (ns : List (List Int)) : List Int := ns.foldl (fun a y => if lexI y a then y else a) n
open PySem.SeqAt PySem.W in
theorem minD_tpI {m : Nat} : ∀ (ns : List (List Int)) (n : List Int), n.length = m → (∀ y ∈ ns, y.length = m) → minD (tpI n).py (ns.map fun y => (tpI y).py) = (tpI (minI n ns)).py
  | [], n, _, _ => rfl
  | y :: ns, n, h1, h2 => by
    have hy : y.length = m := h2 y List.mem_cons_self
    have e : minD (tpI n).py ((y :: ns).map fun y => (tpI y).py) = minD (if lexI y n then (tpI y).py else (tpI n).py) (ns.map fun y => (tpI y).py) := by
      show List.foldl _ (if dataLt (tpI y).py (tpI n).py then (tpI y).py else (tpI n).py) _ = _
      rw [lt_tpI (by rw [h1, hy])]
      rfl
    rw [e]
    show _ = (tpI (minI (if lexI y n then y else n) ns)).py
    by_cases hb : lexI y n = true
    · rw [if_pos hb, if_pos hb]
      exact minD_tpI ns y hy fun z hz => h2 z (List.mem_cons_of_mem _ hz)
    · rw [if_neg hb, if_neg hb]
      exact minD_tpI ns n h1 fun z hz => h2 z (List.mem_cons_of_mem _ hz)
theorem tpI_inj {a b : List Int} (h : (tpI a).py = (tpI b).py) : a = b := by
  rw [tpI_py, tpI_py] at h
  injection h with h
  exact (List.map_inj_right (fun x y e => by injection e)).mp h
theorem ok_tpI (n : List Int) : (tpI n).ok 1 := fun d hd => by
  obtain ⟨i, _, rfl⟩ := List.mem_map.mp hd
  trivial
section
variable {X : Cx} {ρ : Rho} {a : Expr} {r : R} {t : T} {p pos : Pos}
/-- min(xs), a list of tuples of m ints each -/
theorem e_minT {m : Nat} {n : List Int} {ns : List (List Int)} (hc : X.calm = true) (hu : X.A.units + 64 < cLine) (hm : X.mg "min" = none) (ha : E X ρ a r) (hv : view ρ r = some t) (hd : isDL t ((n :: ns).map tpI)) (h1 : n.length = m) (h2 : ∀ y ∈ ns, y.length = m) (hg : Gl X "min" := by rfl)
    (hst : starEach [a] X.env = (false, eval a X.env) :: starEach [] X.env := by rfl) (hpl : (backTo pos (starEach [] X.env)).any (·.1) = false := by rfl) : E X ρ (.Call (.Name "min" p) [a] [] pos) (.tm (.d (tpI (minI n ns)))) :=
  e_bi (call_minU hc hu) hm ha (by decide +kernel) (fun c τ σ H v s Q q => by
    have hall : ∀ y ∈ n :: ns, y.length = m := fun y hy => by
      rcases List.mem_cons.mp hy with e | h
      · rw [e]; exact h1
      · exact h2 y h
    obtain ⟨G0, f0, sb0, w0, _⟩ := s.top hv
    obtain ⟨ar, vs, e1, e2, e3⟩ := hd.at sb0 w0
    subst e1
    have dp := Drs.py (K := X.K) (H := H) ((n :: ns).map tpI) 1 vs (fun d hd => by
      obtain ⟨y, _, rfl⟩ := List.mem_map.mp hd
      exact ok_tpI y) (e3.mono sb0)
    rw [D.pys_map, List.map_map] at dp
    refine ⟨ar, vs, (tpI n).py, ns.map (fun y => (tpI y).py), rfl, SqL.of e2, dp, ⟨fun x hx y hy => ?_, fun x hx => ?_⟩, ?_, fun i x hx hi => ?_⟩
    · rw [← List.map_cons (f := fun y => (tpI y).py)] at hx hy
      obtain ⟨x0, hx0, rfl⟩ := List.mem_map.mp hx
      obtain ⟨y0, hy0, rfl⟩ := List.mem_map.mp hy
      have hl : x0.length = y0.length := by rw [hall x0 hx0, hall y0 hy0]
      show PySem.W.alike (tpI x0).py (tpI y0).py = true
      rw [tpI_py, tpI_py]
      show PySem.W.alikeAll (x0.map PyData.int) (y0.map PyData.int) = true
      clear hx hy hx0 hy0
      induction x0 generalizing y0 with
      | nil => cases y0 with
        | nil => rfl
        | cons _ _ => simp at hl
      | cons z x0 ih => cases y0 with
        | nil => simp at hl
        | cons z' y0 => simpa [PySem.W.alikeAll, PySem.W.alike] using ih y0 (by simpa using hl)
    · rw [← List.map_cons (f := fun y => (tpI y).py)] at hx
      obtain ⟨x0, hx0, rfl⟩ := List.mem_map.mp hx
      rw [tpI_py]
      exact fun e => nomatch e
    · have := (D.oks_lay ((n :: ns).map tpI) 1 (fun d hd => by
        obtain ⟨y, _, rfl⟩ := List.mem_map.mp hd
        exact ok_tpI y)).2
      rw [D.pys_map, List.map_map] at this
      exact Nat.le_trans this (by decide)
    · rw [minD_tpI ns n h1 h2, ← List.map_cons (f := fun y => (tpI y).py), List.getElem?_map] at hi
      obtain ⟨y, hy, ey⟩ := Option.map_eq_some_iff.mp hi
      have := tpI_inj ey
      subst this
      exact q _ _ (s.newItem hv hd (k := i) (x := tpI (minI n ns)) (by rw [List.getElem?_map, hy]; rfl) e2 hx)) hg (by decide) (by decide) hst hpl
end
end DL
namespace DL
open PySem PySem.Spec PyProof.Rows L2
section
variable {X : Cx} {W : WX} {ρ : Rho} {Φ : Ph} {a b o e : Expr} {r r1 r2 : R} {t : T} {pos p apos : Pos} {x y : Str} {i : Int} {c : Nat}
theorem e_addS (ha : E X ρ a (.tm (.d (.str x)))) (hb : E X ρ b (.tm (.d (.str y)))) (hl : x.length + y.length ≤ sizeLine) : E X ρ (.BinOp a .Add b pos) (.tm (.d (.str (x ++ y)))) :=
  e_op op_add_str ha hb fun c τ σ H v u s Q k => by
    obtain rfl := s.vstr
    obtain rfl := s.pop.vstr
    exact ⟨x, y, rfl, rfl, hl, k _ _ (s.pop.pop.push fun _ => .str _)⟩
theorem c_inS (ha : E X ρ a (.tm (.d (.str ⟨#[c]⟩)))) (hb : E X ρ b (.tm (.d (.str y)))) : CJ X ρ .In a b (decide (c ∈ y.cps.toList)) :=
  cj_op op_in_sign ha hb fun c τ σ H v u s Q q => by
    obtain rfl := s.vstr
    obtain rfl := s.pop.vstr
    exact ⟨_, _, rfl, rfl, q _ s.pop.pop⟩
theorem c_notInS (ha : E X ρ a (.tm (.d (.str ⟨#[c]⟩)))) (hb : E X ρ b (.tm (.d (.str y)))) : CJ X ρ .NotIn a b (!decide (c ∈ y.cps.toList)) :=
  cj_op op_notIn_sign ha hb fun c τ σ H v u s Q q => by
    obtain rfl := s.vstr
    obtain rfl := s.pop.vstr
    exact ⟨_, _, rfl, rfl, q _ s.pop.pop⟩
theorem Drs.strs {K : PySem.W.Frag} {G : Hp} : ∀ {vs : List V} {ys : List Str}, Drs K G vs (ys.map D.str) → vs = ys.map V.str
  | [], [], _ => rfl
  | v :: vs, n :: ns, h => by
    cases h with | cons h1 h2 =>
    cases h1
    rw [List.map_cons, ← Drs.strs h2]
  | [], _ :: _, h => by cases h
  | _ :: _, [], h => by cases h
theorem Drs.of_strs {K : PySem.W.Frag} {G : Hp} : ∀ {ys : List Str}, Drs K G (ys.map V.str) (ys.map D.str)
  | [] => .nil
  | n :: ns => .cons (.str n) Drs.of_strs
/-- sep.join(xs) -/
theorem e_join {ys : List Str} (ha : E X ρ o (.tm (.d (.str x)))) (hb : E X ρ e r) (hv : view ρ r = some t) (hd : isDL t (ys.map D.str)) (hl : (ys.map (·.length)).sum + ys.length * x.length ≤ 16777216) (hs : starEach [e] X.env = [(false, eval e X.env)] := by rfl) (hbase : attributeBase o "join" X.env (eval o X.env) = eval o X.env := by rfl) (hline : (apos.endLine == pos.line) = true := by rfl) :
    E X ρ (.Call (.Attribute o "join" apos) [e] [] pos) (.tm (.d (.str (Txt.join x ys)))) := fun c τ σ H s Q k =>
  te_of (pe_join peS peS hs hbase hline) (ha c τ σ H s _ fun v H1 s1 => by
    obtain rfl := s1.vstr
    refine ⟨⟨_, rfl⟩, hb c _ σ H1 s1 _ fun u H2 s2 => ?_⟩
    obtain ⟨G, f, sb, w, _⟩ := s2.top hv
    obtain ⟨ar, vs, e1, e2, e3⟩ := hd.at sb w
    have e4 := e3.strs
    subst e1 e4
    exact ⟨x, ar, ys, rfl, rfl, .inl (SqL.of e2), hl, k _ _ (s2.pop.pop.push fun _ => .str _)⟩)
/-- x.split(sep) -/
theorem e_split (ha : E X ρ o (.tm (.d (.str x)))) (hb : E X ρ e (.tm (.d (.str y)))) (hy : (y.length == 0) = false) (hl : x.length + 2 ≤ sizeLine) (hs : starEach [e] X.env = [(false, eval e X.env)] := by rfl) (hbase : attributeBase o "split" X.env (eval o X.env) = eval o X.env := by rfl) (hline : (apos.endLine == pos.line) = true := by rfl) :
    E X ρ (.Call (.Attribute o "split" apos) [e] [] pos) (.tm (.lst (((Txt.split x y).map D.str).map T.d))) := fun c τ σ H s Q k =>
  te_of (pe_split peS peS hs hbase hline) (ha c τ σ H s _ fun v H1 s1 => by
    obtain rfl := s1.vstr
    refine ⟨⟨_, rfl⟩, hb c _ σ H1 s1 _ fun u H2 s2 => ?_⟩
    obtain rfl := s2.vstr
    refine ⟨x, y, rfl, rfl, hy, hl, fun q hq => k _ _ (s2.pop.pop.new hq fun G _ => ?_)⟩
    exact .lst upd_same (Owns.of_ds Drs.of_strs))
/-- int(text) -/
theorem e_intS {n : Int} (hm : X.mg "int" = none) (ha : E X ρ a (.tm (.d (.str x)))) (hn : PySem.intText? x = some n) (hl : x.length ≤ 640) (hg : Gl X "int" := by rfl)
    (hst : starEach [a] X.env = (false, eval a X.env) :: starEach [] X.env := by rfl) (hpl : (backTo pos (starEach [] X.env)).any (·.1) = false := by rfl) : E X ρ (.Call (.Name "int" p) [a] [] pos) (.tm (.d (.int n))) :=
  e_ty call_int_str hm ha (by decide +kernel) (fun c τ σ H v s Q q => by
    obtain rfl := s.vstr
    exact ⟨x, n, rfl, hn, hl, q _ _ s.pop.int⟩) hg (by decide) (by decide) hst hpl
/-- try .. except X -/
theorem s_tryOnly {k : Nat} {nx : Str} {c0 : Value} {Xb : Value → Rho → Prop} {body suite : List Stmt} {b₀ : Stmt} {np pos' : Pos} (Y : Bx X W k) (hc : Names X nx c0)
    (hb : ∀ W' pn xe, Bx (X.tr pn xe) W' k → DL.S (X.tr pn xe) W' ρ body { Φ with ex := Xb })
    (hx : ∀ cls ρ', Xb cls ρ' → PySem.W.exmOne X.K cls c0 = some false ∧ Φ.ex cls ρ')
    (hst : X.stack = X.env :: X.outer := by rfl) (hfr : X.env.frame = some X.env.locals := by rfl) :
    S1 X W ρ (.Try body [.ExceptHandler (some (.Name nx np)) none (b₀ :: suite) pos'] [] [] pos) Φ := fun c τ σ H tm s D P => by
  refine ts_of (L2.ps_try_only (tb := fun W' D σ H => ∀ pn xe, L2.Takes (X.tr pn xe) W' → PassesOwn (model X.prog X.w) X.A X.env xe → tbS (X.tr pn xe) body D σ H)
    (ts := fun a cls d D σ H => ∀ oe pn, L2.Zc cls d oe → (∃ vs, oe.data = .fields vs) → tbS (X.suite a ((a, oe) :: pn)) (b₀ :: suite) D σ H) hst hfr hc Y.takes
    (fun W' pn xe tk ps => ⟨fun pins s0 σ H D I h => h pn xe tk ps pins s0 I⟩) (fun a oe cls d pn hz hf => ⟨fun pins s0 σ H D I h => h oe pn hz hf pins s0 I⟩)) ?_
  intro pn xe tk ps
  refine hb _ pn xe ⟨Y.calm, Y.nd, tk, ps, Y.room⟩ c τ σ H tm s D ⟨P.nx, P.rt, P.bk, P.ct, fun cls ρ' σ' H' q s' => ?_⟩
  obtain ⟨e, h2⟩ := hx cls ρ' q
  exact ⟨false, e, (fun hbt => Bool.noConfusion hbt), fun _ => P.ex _ _ _ _ h2 s'⟩
end
theorem join_cps1 (c : Nat) (p : Str) : (Str.join ⟨#[c]⟩ [p]).cps.toList = p.cps.toList := rfl
theorem join_cps2 (c : Nat) (p q : Str) (l : List Str) : (Str.join ⟨#[c]⟩ (p :: q :: l)).cps.toList = p.cps.toList ++ c :: (Str.join ⟨#[c]⟩ (q :: l)).cps.toList := by
  show ((p ++ ⟨#[c]⟩ ++ Str.join ⟨#[c]⟩ (q :: l)).cps).toList = _
  rw [Str.cps_append, Str.cps_append]
  simp
theorem cut_eq {c : Nat} : ∀ {a b u v : List Nat}, c ∉ a → c ∉ b → a ++ c :: u = b ++ c :: v → a = b ∧ u = v
  | [], [], u, v, _, _, h => ⟨rfl, by simpa using h⟩
  | [], y :: b, u, v, _, hb, h => by simp at h; exact absurd h.1 (fun e => hb (by rw [e]; exact List.mem_cons_self))
  | x :: a, [], u, v, ha, _, h => by simp at h; exact absurd h.1.symm (fun e => ha (by rw [e]; exact List.mem_cons_self))
  | x :: a, y :: b, u, v, ha, hb, h => by
    simp at h
    obtain ⟨h1, h2⟩ := cut_eq (fun m => ha (List.mem_cons_of_mem _ m)) (fun m => hb (List.mem_cons_of_mem _ m)) h.2
    exact ⟨by rw [h.1, h1], h2⟩
theorem str_eq {a b : Str} (h : a.cps.toList = b.cps.toList) : a = b := Str.ext' (Array.toList_inj.mp h)
theorem join_inj {c : Nat} : ∀ {l m : List Str}, l ≠ [] → m ≠ [] → (∀ p ∈ l, c ∉ p.cps.toList) → (∀ p ∈ m, c ∉ p.cps.toList) → (Str.join ⟨#[c]⟩ l).cps.toList = (Str.join ⟨#[c]⟩ m).cps.toList → l = m
  | [p], [q], _, _, _, _, h => by rw [join_cps1, join_cps1] at h; rw [str_eq h]
  | [p], q :: q2 :: m, _, _, hl, _, h => by
    rw [join_cps1, join_cps2] at h
    exact absurd (by rw [h]; simp) (hl p List.mem_cons_self)
  | p :: p2 :: l, [q], _, _, _, hm, h => by
    rw [join_cps1, join_cps2] at h
    exact absurd (by rw [← h]; simp) (hm q List.mem_cons_self)
  | p :: p2 :: l, q :: q2 :: m, _, _, hl, hm, h => by
    rw [join_cps2, join_cps2] at h
    obtain ⟨h1, h2⟩ := cut_eq (hl p List.mem_cons_self) (hm q List.mem_cons_self) h
    rw [str_eq h1, join_inj (by simp) (by simp) (fun z hz => hl z (List.mem_cons_of_mem _ hz)) (fun z hz => hm z (List.mem_cons_of_mem _ hz)) h2]
  | [], _, h, _, _, _, _ => absurd rfl h
  | _, [], _, h, _, _, _ => absurd rfl h
theorem split_join {c : Nat} {l : List Str} (hl : l ≠ []) (h : ∀ p ∈ l, c ∉ p.cps.toList) : Txt.split (Str.join ⟨#[c]⟩ l) ⟨#[c]⟩ = l := by
  refine join_inj ?_ hl (StrLaws.split_free _ c) h ?_
  · have := PyProof.Rows.split_pos (Str.join ⟨#[c]⟩ l) ⟨#[c]⟩
    intro z
    rw [z] at this
    simp at this
  · rw [StrLaws.join_split]
structure ExN (K : PySem.W.Frag) (nm : Str) : Prop where
  c : ExcC K (He.ga K nm)
  he : PySem.W.exmOne K (.ref (He.ga K nm)) (.ref (He.ga K "HaltError")) = some true
  ve : PySem.W.kitOne K (.ref (He.ga K nm)) (.type "ValueError") = some true
abbrev Glo (K : PySem.W.Frag) (mg : Str → Option Value) (nm : Str) : Prop := mg nm = some (.ref (He.ga K nm))
abbrev KitE (K : PySem.W.Frag) (a b : Str) (z : Bool) : Prop := PySem.W.kitOne K (.ref (He.ga K a)) (.ref (He.ga K b)) = some z
def marksT (a b c d : Bool) : T := .tup [.d .non, .lst [.d (.bl a), .d (.bl b), .d (.bl c), .d (.bl d)]]
end DL
namespace DL
open PySem PySem.Spec PyProof.Rows L2
structure SpecM where
  α : Type
  enc : α → List D
  tree : α → T
  enc2 : α → List D
  pre : α → Prop
  post : α → T → Prop
structure AftM (G H : Hp) (fp : List Addr) (G' H' : Hp) : Prop where
  frame : ∀ b o, H b = some o → b ∉ fp → H' b = some o
  there : ∀ b o, H b = some o → ∃ o', H' b = some o'
  sub : Same G' H'
  ext : Same G G'
  new : ∀ b o, G' b = some o → (∃ o', G b = some o') ∨ H b = none ∨ b ∈ fp
def SpMD (K : PySem.W.Frag) (S : SpecM) : Sp := fun vs H Q E => ∃ (G : Hp) (x : S.α) (us ws : List V) (a : Addr) (fp : List Addr), vs = us ++ (.ref a :: ws) ∧ Same G H ∧ Drs K G us (S.enc x) ∧ Drs K G ws (S.enc2 x) ∧ Own K G H (.ref a) (S.tree x) fp ∧ fp.Nodup ∧ (∀ b ∈ fp, G b = none) ∧ S.pre x ∧
  ∀ t', S.post x t' → ∀ H' G' fp', AftM G H fp G' H' → Own K G' H' (.ref a) t' fp' → fp'.Nodup → (∀ b ∈ fp', G' b = none ∧ (b ∈ fp ∨ H b = none)) → Q .non H'
def KnMu (P : Program) (w : World) (K : PySem.W.Frag) (mg : Str → Option Value) (base : Heap) (nm : Str) (k : Nat) (S : SpecM) : Prop :=
  ∃ (f : Addr) (fd : FuncData) (ps : List Str), FnOk P w K mg base (L2.CX P w) k f fd ps (SpMD K S) ∧ mg nm = some (.ref f) ∧ PySem.W.keepIn K (.ref f) = true ∧ Binds K fd ps []
theorem Slots.append {K : PySem.W.Frag} {G H : Hp} : ∀ {ρ1 ρ2 : Rho} {σ1 σ2 : L2.St} {f1 f2 : List Addr}, Slots K G H ρ1 σ1 f1 → Slots K G H ρ2 σ2 f2 → Slots K G H (ρ1 ++ ρ2) (σ1 ++ σ2) (f1 ++ f2)
  | _, _, _, _, _, _, .nil, h => h
  | _, _, _, _, _, _, .non h1, h => .non (Slots.append h1 h)
  | _, _, _, _, _, _, .som h0 h1, h => by
    have := Slots.som h0 (Slots.append h1 h)
    simpa [List.append_assoc] using this
def rhoM (N : List Str) (ds : List D) (a : Addr) (t : T) (es : List D) : Rho := ds.map (fun d => some (T.d d)) ++ (some (.tag a t) :: (es.map (fun d => some (T.d d)) ++ List.replicate (N.length - (ds.length + (es.length + 1))) none))
section
variable {P : Program} {w : World} {K : PySem.W.Frag} {mg : Str → Option Value} {base : Heap}
theorem kn_ofM {x qual : Str} {st : Stmt} {f : Addr} {fd : FuncData} {N ps : List Str} {k : Nat} {S : SpecM} (F : Fun K x qual st f fd) (hm : mg x = some (.ref f)) (hb : Binds K fd ps []) (Sc : FnScope N ps (defScope st)) (len : ∀ x : S.α, S.pre x → (S.enc x).length + ((S.enc2 x).length + 1) = ps.length)
    (body : ∀ (cdv : Value) (A : Around) (outer : List Env) (s : Shared) (H : Hp) (E : XK) (W : WX), Bx (cxOf (L2.CX P w) P w K mg base N qual (defScope st) f cdv A outer s H E) W k → ∀ (x : S.α) (a : Addr), S.pre x →
      DL.S (cxOf (L2.CX P w) P w K mg base N qual (defScope st) f cdv A outer s H E) W (rhoM N (S.enc x) a (S.tree x) (S.enc2 x)) (defBody st) ⟨fun ρ => ∃ t', ρ[(S.enc x).length]? = some (some (.tag a t')) ∧ S.post x t', fun _ _ => False, fun _ => False, fun _ => False, fun _ _ => False⟩) :
    KnMu P w K mg base x (k + 1) S := by
  refine ⟨f, fd, ps, ?_, hm, F.kp, hb⟩
  refine F.okX Sc (fun vs H Q E h => ?_) (fun cdv A outer s H vs Q E hr h => ?_)
  · obtain ⟨G, y, us, ws, a, fp, rfl, _, d1, d2, _, _, _, pr, _⟩ := h
    rw [List.length_append, List.length_cons, d1.len, d2.len]; exact len y pr
  · obtain ⟨G, y, us, ws, a, fp, rfl, sb, d1, d2, ow, nd, fr, pr, hQ⟩ := h
    refine ⟨tbS _ (defBody st), pbS, ?_⟩
    have B : Bx (cxOf (L2.CX P w) P w K mg base N qual (defScope st) f cdv A outer s H E) (fun cls d _ H => E cls d H) k := ⟨rfl, Sc.nd, takes_of rfl rfl rfl rfl, passes_of rfl, hr⟩
    refine body cdv A outer s H E _ B y a pr ⟨H, G, fp⟩ [] _ H TmOnly.nil ?_ _ ⟨fun ρ σ' H' q s' => ?_, fun _ _ _ _ _ q => q.elim, fun _ _ _ q => q.elim, fun _ _ _ q => q.elim, fun _ _ _ _ q => q.elim⟩
    · refine ⟨G, [] ++ (fp ++ []), [], ⟨sb, Same.refl _, fun a o q => .inl ⟨o, q⟩, fun a o q _ => q, fun a o q => ⟨o, q⟩, by simpa using nd, fun b m => ?_⟩, ?_, .nil⟩
      · have m : b ∈ fp := by simpa using m
        exact ⟨fr b m, .inl m⟩
      · have e : L2.start N (us ++ (.ref a :: ws)) = us.map some ++ (some (V.ref a) :: (ws.map some ++ List.replicate (N.length - ((S.enc y).length + ((S.enc2 y).length + 1))) none)) := by
          unfold L2.start
          rw [List.map_append, List.map_cons, List.length_append, List.length_cons, d1.len, d2.len]
          simp
        rw [e]
        unfold rhoM
        have s1 := slots_start (K := K) (G := G) (H := H) (m := 0) d1
        have s2 := slots_start (K := K) (G := G) (H := H) (m := N.length - ((S.enc y).length + ((S.enc2 y).length + 1))) d2
        have s1' : Slots K G H ((S.enc y).map (fun d => some (T.d d))) (us.map some) [] := by simpa using s1
        exact s1'.append (.som (.tag ow) s2)
    · obtain ⟨t', e', hp⟩ := q
      obtain ⟨G', fs, ft, C, L, M⟩ := s'
      cases M
      obtain ⟨v, l1, g, l2, a1, a2, a3, _⟩ := L.get e'
      cases a3 with | tag a3 =>
      have sbl : g.Sublist (fs ++ []) := by
        rw [List.append_nil, a2, List.append_assoc]
        exact (List.sublist_append_left g l2).trans (List.sublist_append_right l1 _)
      refine hQ t' hp H' G' g ⟨fun b o e nf => C.prot b o e nf, C.there, C.sub, C.base, fun b o e => C.newG b o e⟩ a3 (sbl.nodup C.nd) fun b m => C.own b (sbl.subset m)
end
section
variable {X : Cx} {W : WX} {ρ : Rho} {Φ : Ph} {e1 e2 e3 : Expr} {t : T} {nm : Str} {k j n : Nat} {S : SpecM} {pos p spos : Pos} {x1 x3 : D}
/-- the state behind such a call -/
theorem St.afterM {K : PySem.W.Frag} {c : Cst} {σ : L2.St} {H H' G G' : Hp} {ft : List Addr} {τ : List (V × R)} {a : Addr} {t t' : T} {l1 f l2 fp' : List Addr} (C : Core c G H ((l1 ++ f ++ l2) ++ ft)) (tm : TmOnly τ)
    (hl1 : ∀ b ∈ (l1 ++ l2) ++ ft, ∃ o, H b = some o) (L : ∀ (G' H' : Hp) (v' : V) (t' : T) (f' : List Addr), Same G G' → On (l1 ++ l2) H H' → Own K G' H' v' t' f' → Slots K G' H' (ρ.set n (some t')) (σ.set n (some v')) (l1 ++ f' ++ l2)) (hσ : σ.set n (some (V.ref a)) = σ) (M : Temps K G H ρ σ τ ft)
    (A : AftM G H f G' H') (w : Own K G' H' (.ref a) t' fp') (nd : fp'.Nodup) (fr : ∀ b ∈ fp', G' b = none ∧ (b ∈ f ∨ H b = none)) : St K c (ρ.set n (some t')) τ σ H' := by
  have P0 : ((l1 ++ f ++ l2) ++ ft).Perm (f ++ ((l1 ++ l2) ++ ft)) := by
    rw [List.perm_iff_count]; intro z; simp only [List.count_append]; omega
  have C0 := C.perm P0
  obtain ⟨n1, n2, n3⟩ := List.nodup_append.mp C0.nd
  have dj : ∀ b ∈ (l1 ++ l2) ++ ft, b ∉ f := fun b m m' => n3 b m' b m rfl
  have on : On ((l1 ++ l2) ++ ft) H H' := fun b m o e => A.frame b o e (dj b m)
  have s1 := L G' H' (.ref a) t' fp' A.ext on.l w
  rw [hσ] at s1
  have P1 : ((l1 ++ fp' ++ l2) ++ ft).Perm (fp' ++ ((l1 ++ l2) ++ ft)) := by
    rw [List.perm_iff_count]; intro z; simp only [List.count_append]; omega
  refine ⟨G', _, ft, ⟨A.sub, C.base.trans A.ext, fun b o q => ?_, fun b o e nf => ?_, fun b o e => ?_, P1.nodup_iff.mpr (List.nodup_append.mpr ⟨nd, n2, fun b m b' m' e => ?_⟩), fun b m => ?_⟩, s1, M.move A.ext tm on.r⟩
  · rcases A.new b o q with ⟨o', z⟩ | z | z
    · exact C.newG b o' z
    · refine .inr (.inl ?_)
      cases y : c.H0 b with
      | none => rfl
      | some u => obtain ⟨o', y'⟩ := C.there b u y; rw [z] at y'; cases y'
    · rcases (C0.own b (List.mem_append_left _ z)).2 with y | y
      · exact .inr (.inr y)
      · exact .inr (.inl y)
  · refine A.frame b o (C.prot b o e nf) fun z => ?_
    rcases (C0.own b (List.mem_append_left _ z)).2 with y | y
    · exact nf y
    · rw [y] at e; cases e
  · obtain ⟨o', z⟩ := C.there b o e
    exact A.there b o' z
  · subst e
    rcases (fr b m).2 with z | z
    · exact dj b m' z
    · obtain ⟨o, q⟩ := hl1 b m'
      rw [z] at q; cases q
  · rcases List.mem_append.mp (P1.mem_iff.mp m) with m | m
    · refine ⟨(fr b m).1, ?_⟩
      rcases (fr b m).2 with z | z
      · exact (C0.own b (List.mem_append_left _ z)).2
      · refine .inr ?_
        cases y : c.H0 b with
        | none => rfl
        | some u => obtain ⟨o', y'⟩ := C.there b u y; rw [z] at y'; cases y'
    · obtain ⟨g1, g2⟩ := C0.own b (List.mem_append_right _ m)
      refine ⟨?_, g2⟩
      cases y : G' b with
      | none => rfl
      | some u =>
        rcases A.new b u y with ⟨o', z⟩ | z | z
        · rw [g1] at z; cases z
        · obtain ⟨o, q⟩ := hl1 b m
          rw [z] at q; cases q
        · exact (dj b m z).elim
/-- f(d, x), x a name whose tree is changed -/
theorem s_callM2 (n : Nat) (Y : Bx X W j) (F : KnMu X.prog X.w X.K X.mg X.base nm k S) (hr : Room k X.A) (h1 : E X ρ e1 (.tm (.d x1))) (h2 : E X ρ e2 (.pl n [])) (x : S.α) (hx1 : S.enc x = [x1]) (hx2 : S.enc2 x = []) (ht : S.tree x = t) (hq : t.strip = t) (hpre : S.pre x) (hp : ∀ t', S.post x t' → Φ.nx (ρ.set n (some t')))
    (hlst : ∃ ts, t = .lst ts) (et : ρ[n]? = some (some t) := by rfl) (hs : swapsWith (.Call (.Name nm p) [e1, e2] [] pos) none spos.line X.env = pure false := by rfl) (hg : Gl X nm := by rfl) (hdb : (nm == ("__debug__" : Str)) = false := by decide)
    (s1 : starEach [e1, e2] X.env = (false, eval e1 X.env) :: starEach [e2] X.env := by rfl) (s2 : starEach [e2] X.env = (false, eval e2 X.env) :: starEach [] X.env := by rfl) (hpl : (backTo pos (starEach [e2] X.env)).any (·.1) = false := by rfl) : S1 X W ρ (.Expr (.Call (.Name nm p) [e1, e2] [] pos) spos) Φ := fun c τ σ H tm s D P => by
  obtain ⟨f, fd, ps, F, hm, hk, hb⟩ := F
  refine ts_of (ps_expr (pe_callS (E := WE W) F hr hg hm hk hb (fun σ => passAt Y.takes σ) (pa_cons peS (pa_cons peS pa_nil s2) s1) hdb s1 hpl) hs) (h1 c τ σ H s _ fun v1 H1 st1 => h2 c _ σ H1 st1 _ fun v2 H2 st2 => ?_)
  obtain ⟨G, fs, ft, C, L, M⟩ := st2
  cases M with | @pl _ _ _ _ u0 t0 s0 fM a1 a2 a3 a4 M =>
  cases M with | @tm _ _ _ f1 f2 m1 m2 =>
  obtain ⟨d1, rfl⟩ := m1.is_d
  obtain ⟨w, l1, g, l2, b1, b2, b3, b4⟩ := L.get et
  rw [a1] at b1
  cases b1
  have e4 : u0 = v2 := by simpa [atV] using a4
  subst e4 b2
  obtain ⟨ts, rfl⟩ := hlst
  obtain ⟨ar, vs, g0, q1, _, _, _⟩ := b3.is_lst
  subst q1
  have hsub : g.Sublist ((l1 ++ g ++ l2) ++ ([] ++ f2)) := (List.sublist_append_right l1 g).trans ((List.sublist_append_left _ l2).trans (List.sublist_append_left _ _))
  refine ⟨G, x, [v1], [], ar, g, rfl, C.sub, by rw [hx1]; exact .cons d1 .nil, by rw [hx2]; exact .nil, by rw [ht]; exact b3, hsub.nodup C.nd, fun b m => (C.own b (hsub.subset m)).1, hpre, fun t' hp' H' G' fp' A w' nd fr => P.nx _ _ _ (hp t' hp') ?_⟩
  refine St.afterM (t := .lst ts) (ft := f2) (by simpa using C) tm (fun b m => ?_) b4 (list_set_none a1) m2 A w' nd fr
  have LT := L.there
  rcases List.mem_append.mp m with m | m
  · refine LT b ?_
    rcases List.mem_append.mp m with m | m <;> simp [m]
  · exact m2.there b m
end
section
variable {K : PySem.W.Frag} {G H : Hp}
theorem Owns.erase : ∀ {vs : List V} {ts : List T} {f : List Addr} (k : Nat), Owns K G H vs ts f → ∃ g, g.Sublist f ∧ Owns K G H (vs.eraseIdx k) (ts.eraseIdx k) g
  | [], [], _, k, h => by cases h; exact ⟨[], .slnil, by simpa using Owns.nil⟩
  | v :: vs, t :: ts, _, 0, h => by
    cases h with | @cons _ _ _ _ f1 f2 h1 h2 => exact ⟨f2, List.sublist_append_right _ _, h2⟩
  | v :: vs, t :: ts, _, k + 1, h => by
    cases h with | @cons _ _ _ _ f1 f2 h1 h2 =>
    obtain ⟨g, s, w⟩ := Owns.erase k h2
    exact ⟨f1 ++ g, s.append_left f1, .cons h1 w⟩
  | [], _ :: _, _, _, h => by cases h
  | _ :: _, [], _, _, h => by cases h
end
section
variable {X : Cx} {W : WX} {ρ : Rho} {Φ : Ph} {o b : Expr} {t0 : T} {xs : List T} {apos cpos spos : Pos} {n : Nat} {p : List Nat} {i : Int}
theorem s_popAt (ho : E X ρ o (.pl n p)) (hi : E X ρ b (.tm (.d (.int i)))) (et : ρ[n]? = some (some t0)) (ep : T.at p t0 = some (.lst xs)) (h0 : 0 ≤ i) (hlt : i < xs.length) (hz : xs.length ≤ 1000000) (h : Φ.nx (ρ.set n (some (T.put p t0 (.lst (xs.eraseIdx i.toNat))))))
    (hbase : attributeBase o "pop" X.env (eval o X.env) = eval o X.env := by rfl)
    (hfew : ((backTo cpos (starEach [b] X.env)).all (fun x => !x.1) && (backToKw cpos (keywordEach [] X.env)).all (fun x => x.1.isSome)
      && decide ([b].length + ([] : List Keyword).length + (if ([] : List Keyword).isEmpty then 0 else 1) < 30)) = true := by rfl)
    (hline : (apos.endLine == cpos.line) = true := by rfl) (hs : starEach [b] X.env = (false, eval b X.env) :: starEach [] X.env := by rfl) (hplain : (backTo cpos (starEach [] X.env)).any (·.1) = false := by rfl)
    (hsw : swapsWith (.Call (.Attribute o "pop" apos) [b] [] cpos) none spos.line X.env = pure false := by rfl) :
    S1 X W ρ (.Expr (.Call (.Attribute o "pop" apos) [b] [] cpos) spos) Φ := fun c τ σ H tm s D P =>
  ts_of (ps_expr (pe_bm PySem.F.plainAttrs_list PySem.F.slot_list_pop PySem.F.type_list_pop mt_popAt peS (pa_cons peS pa_nil hs) hbase hfew hline hs hplain) hsw)
    (ho c τ σ H s _ fun v H1 s1 => by
      obtain ⟨G, f, sb, w, _⟩ := s1.top (view_pl et ep)
      obtain ⟨ar, vs, g, e1, _, e2, e3⟩ := w.is_lst
      refine ⟨by rw [e1]; exact .inl ⟨rfl, _, SqL.of e2⟩, hi c _ σ H1 s1 _ fun u H2 s2 => ?_⟩
      obtain rfl := s2.vint
      obtain ⟨G', f', sb', w', _⟩ := s2.pop.top (view_pl et ep)
      obtain ⟨ar', vs', g', e1', _, e2', e3'⟩ := w'.is_lst
      have hk : i.toNat < vs'.length := by rw [e3'.len]; omega
      refine ⟨ar', vs', i, i.toNat, _, e1', rfl, e2', by omega, by omega, StrLaws.seqIndex_nonneg h0 (by rw [e3'.len]; exact hlt), List.getElem?_eq_getElem hk, P.nx _ _ _ h ?_⟩
      have s3 := s2.pop
      rw [e1'] at s3
      refine s3.mut1 tm et ep e2' fun G g q => ?_
      obtain ⟨g2, sub, w2⟩ := Owns.erase i.toNat q
      exact ⟨g2, g2, .refl _, sub, w2⟩)
end
end DL
namespace DL
open PySem PySem.Spec PyProof.Rows L2
section
variable {K : PySem.W.Frag} {G H : Hp}
theorem Owns.pairs {l m : List (V × T)} (p : l.Perm m) : ∀ {f : List Addr}, Owns K G H (l.map (·.1)) (l.map (·.2)) f → ∃ g, g.Perm f ∧ Owns K G H (m.map (·.1)) (m.map (·.2)) g := by
  induction p with
  | nil => intro f h; exact ⟨f, .refl _, h⟩
  | cons x _ ih =>
    intro f h
    cases h with | @cons _ _ _ _ f1 f2 h1 h2 =>
    obtain ⟨g, q1, q2⟩ := ih h2
    exact ⟨f1 ++ g, List.Perm.append_left f1 q1, .cons h1 q2⟩
  | swap x y l =>
    intro f h
    cases h with | @cons _ _ _ _ f1 f2 h1 h2 =>
    cases h2 with | @cons _ _ _ _ f3 f4 h3 h4 =>
    refine ⟨f3 ++ (f1 ++ f4), ?_, .cons h3 (.cons h1 h4)⟩
    rw [← List.append_assoc, ← List.append_assoc]
    exact List.Perm.append_right f4 List.perm_append_comm
  | trans _ _ ih1 ih2 =>
    intro f h
    obtain ⟨g, q1, q2⟩ := ih1 h
    obtain ⟨g', q3, q4⟩ := ih2 q2
    exact ⟨g', q3.trans q1, q4⟩
theorem Owns.swap {vs : List V} {ts : List T} {f : List Addr} {i j : Nat} {va vb : V} {ta tb : T} (h : Owns K G H vs ts f) (h1 : vs[i]? = some va) (h2 : vs[j]? = some vb) (h3 : ts[i]? = some ta) (h4 : ts[j]? = some tb) : ∃ g, g.Perm f ∧ Owns K G H ((vs.set i vb).set j va) ((ts.set i tb).set j ta) g := by
  have hl := h.len
  obtain ⟨i1, e1⟩ := List.getElem?_eq_some_iff.mp h1
  obtain ⟨j1, e2⟩ := List.getElem?_eq_some_iff.mp h2
  obtain ⟨i2, e3⟩ := List.getElem?_eq_some_iff.mp h3
  obtain ⟨j2, e4⟩ := List.getElem?_eq_some_iff.mp h4
  have zi : i < (vs.zip ts).length := by rw [List.length_zip]; omega
  have zj : j < (vs.zip ts).length := by rw [List.length_zip]; omega
  have pm := List.set_set_perm (as := vs.zip ts) zi zj
  have hf : ∀ {l : List V} {m : List T}, l.length = m.length → (l.zip m).map (·.1) = l ∧ (l.zip m).map (·.2) = m := fun e => ⟨List.map_fst_zip (by omega), List.map_snd_zip (by omega)⟩
  have h' : Owns K G H ((vs.zip ts).map (·.1)) ((vs.zip ts).map (·.2)) f := by
    rw [(hf hl).1, (hf hl).2]; exact h
  obtain ⟨g, q1, q2⟩ := Owns.pairs pm.symm h'
  refine ⟨g, q1, ?_⟩
  rw [List.map_set, List.map_set, List.map_set, List.map_set, (hf hl).1, (hf hl).2] at q2
  simp only [List.getElem_zip] at q2
  rw [e1, e2, e3, e4] at q2
  exact q2
end
theorem upd_upd {H : Hp} {a : Addr} {o o' : HO} : upd (upd H a o) a o' = upd H a o' := funext fun q => by
  by_cases e : q = a
  · subst e; rw [upd_same, upd_same]
  · rw [upd_ne e, upd_ne e, upd_ne e]
section
variable {X : Cx} {W : WX} {ρ : Rho} {Φ : Ph} {t0 ta tb : T} {xs : List T} {i j : Int} {ia jb : Nat} {nk nt na nb : Str} {pk p1 p2 p3 p4 p5 p6 p7 p8 q1 q2 q3 q4 q5 q6 q7 : Pos}
/-- k = t[a]; t[a] = t[b]; t[b] = k -/
theorem s_swap (m n a b : Nat) {kk : Nat} (Y : Bx X W kk) (et : ρ[n]? = some (some t0)) (ep : T.at [] t0 = some (.lst xs)) (ea : ρ[a]? = some (some (.d (.int i)))) (eb : ρ[b]? = some (some (.d (.int j)))) (hi : ixN xs.length i = some ia) (hj : ixN xs.length j = some jb) (xa : xs[ia]? = some ta) (xb : xs[jb]? = some tb)
    (h : Φ.nx ((ρ.set n (some (T.put [] t0 (.lst ((xs.set ia tb).set jb ta))))).set m none)) (hmn : m ≠ n := by decide) (hma : m ≠ a := by decide) (hmb : m ≠ b := by decide) (hm : Nat.ble (m + 1) ρ.length = true := by rfl)
    (Nm : X.N[m]? = some nk := by rfl) (Nn : X.N[n]? = some nt := by rfl) (Na : X.N[a]? = some na := by rfl) (Nb : X.N[b]? = some nb := by rfl)
    (lm : Loc X.env.scope nk := by first | exact Or.inl rfl | exact Or.inr rfl) (fm : X.fn nk = true ∨ X.env.scope.names.lookup nk = some .local := by first | exact .inl rfl | exact .inr rfl | assumption)
    (vm : Vis X.env.scope nk := by first | exact Or.inl rfl | exact Or.inr (Or.inl rfl) | exact Or.inr (Or.inr rfl)) (vn : Vis X.env.scope nt := by first | exact Or.inl rfl | exact Or.inr (Or.inl rfl) | exact Or.inr (Or.inr rfl)) (va : Vis X.env.scope na := by first | exact Or.inl rfl | exact Or.inr (Or.inl rfl) | exact Or.inr (Or.inr rfl)) (vb : Vis X.env.scope nb := by first | exact Or.inl rfl | exact Or.inr (Or.inl rfl) | exact Or.inr (Or.inr rfl))
    (dm : (nk == ("__debug__" : Str)) = false := by decide) (dn : (nt == ("__debug__" : Str)) = false := by decide) (da : (na == ("__debug__" : Str)) = false := by decide) (db : (nb == ("__debug__" : Str)) = false := by decide)
    (cm : (nk == ("__classdict__" : Str)) = false := by decide) (cn : (nt == ("__classdict__" : Str)) = false := by decide) (ca : (na == ("__classdict__" : Str)) = false := by decide) (cb : (nb == ("__classdict__" : Str)) = false := by decide)
    (w1 : swapsWith (.Subscript (.Name nt p2) (.Name na p3) p4) (some (.Name nk p1)) pk.line X.env = pure false := by rfl)
    (g2 : ∀ v, assign (.Subscript (.Name nt p5) (.Name na p6) p7) X.env v = (do
      let ov ← holding [v] (eval (.Name nt p5) X.env)
      let iv ← holding [v, ov] (eval (.Name na p6) X.env)
      standAt p7
      holding [v, ov, iv] (setItem ov iv v)
      release [v, ov, iv] []) := by intro _; rfl)
    (w2 : swapsWithSole [.Subscript (.Name nt p5) (.Name na p6) p7] (.Subscript (.Name nt q1) (.Name nb q2) q3) p8.line X.env = pure false := by rfl) (y2 : swappedStores [.Subscript (.Name nt p5) (.Name na p6) p7] (.Subscript (.Name nt q1) (.Name nb q2) q3) X.env = pure none := by rfl)
    (z2 : (assignEach [.Subscript (.Name nt p5) (.Name na p6) p7] X.env).map (·.2) = [assign (.Subscript (.Name nt p5) (.Name na p6) p7) X.env] := by rfl)
    {r1 r2 r3 r4 r5 : Pos}
    (g3 : ∀ v, assign (.Subscript (.Name nt r1) (.Name nb r2) r3) X.env v = (do
      let ov ← holding [v] (eval (.Name nt r1) X.env)
      let iv ← holding [v, ov] (eval (.Name nb r2) X.env)
      standAt r3
      holding [v, ov, iv] (setItem ov iv v)
      release [v, ov, iv] []) := by intro _; rfl)
    (w3 : swapsWithSole [.Subscript (.Name nt r1) (.Name nb r2) r3] (.Name nk r4) r5.line X.env = pure false := by rfl) (y3 : swappedStores [.Subscript (.Name nt r1) (.Name nb r2) r3] (.Name nk r4) X.env = pure none := by rfl)
    (z3 : (assignEach [.Subscript (.Name nt r1) (.Name nb r2) r3] X.env).map (·.2) = [assign (.Subscript (.Name nt r1) (.Name nb r2) r3) X.env] := by rfl) :
    DL.S X W ρ [.Assign [.Name nk p1] (.Subscript (.Name nt p2) (.Name na p3) p4) pk, .Assign [.Subscript (.Name nt p5) (.Name na p6) p7] (.Subscript (.Name nt q1) (.Name nb q2) q3) p8, .Assign [.Subscript (.Name nt r1) (.Name nb r2) r3] (.Name nk r4) r5] Φ := fun c τ σ H tm s D P => by
  refine tb_of (pss_cons (ps_set Y.nd Nm lm (pe_ix ix_list (pe_var Nn vn dn cn) (pe_var Na va da ca) (fun _ _ => rfl)) w1 fm)
    (pss_cons (ps_asg (pe_ix ix_list (pe_var Nn vn dn cn) (pe_var Nb vb db cb) (fun _ _ => rfl)) (pg_sub (pe_var Nn vn dn cn) (pe_var Na va da ca) set_list g2) w2 y2 z2)
      (pss_one (ps_asg (pe_var Nm vm dm cm) (pg_sub (pe_var Nn vn dn cn) (pe_var Nb vb db cb) set_list g3) w3 y3 z3)))) ?_
  -- the slots
  obtain ⟨v, hv, s1⟩ := s.place et
  obtain ⟨v2, hv2, s2⟩ := s.var ea
  obtain rfl := s2.vint
  obtain ⟨v3, hv3, s3⟩ := s.var eb
  obtain rfl := s3.vint
  obtain ⟨G, f, sb, w, _⟩ := s1.top (view_pl et ep)
  obtain ⟨ar, vs, g, e1, _, e2, e3⟩ := w.is_lst
  subst e1
  have hl := e3.len
  obtain ⟨va0, ha0⟩ : ∃ v, vs[ia]? = some v := ⟨_, List.getElem?_eq_getElem (by rw [hl]; exact (List.getElem?_eq_some_iff.mp xa).1)⟩
  obtain ⟨vb0, hb0⟩ : ∃ v, vs[jb]? = some v := ⟨_, List.getElem?_eq_getElem (by rw [hl]; exact (List.getElem?_eq_some_iff.mp xb).1)⟩
  have hmσ : m < σ.length := by rw [← s.len]; exact Nat.le_of_ble_eq_true hm
  have k1 : (σ.set m (some va0))[n]? = some (some (V.ref ar)) := by rw [List.getElem?_set_ne hmn]; exact hv
  have k2 : (σ.set m (some va0))[a]? = some (some (V.int i)) := by rw [List.getElem?_set_ne hma]; exact hv2
  have k3 : (σ.set m (some va0))[b]? = some (some (V.int j)) := by rw [List.getElem?_set_ne hmb]; exact hv3
  have k4 : (σ.set m (some va0))[m]? = some (some va0) := List.getElem?_set_self hmσ
  refine ⟨_, hv, _, hv2, ar, vs, i, va0, rfl, rfl, SqL.of e2, by unfold atI; rw [hl, hi]; exact ha0, ?_⟩
  refine ⟨_, k1, _, k3, ar, vs, j, vb0, rfl, rfl, SqL.of e2, by unfold atI; rw [hl, hj]; exact hb0, _, k1, _, k2, ar, vs, i, ia, rfl, rfl, e2, by rw [hl]; exact hi, ?_⟩
  refine ⟨_, k4, _, k1, _, k3, ar, vs.set ia vb0, j, jb, rfl, rfl, upd_same, by rw [List.length_set, hl]; exact hj, ?_⟩
  rw [upd_upd]
  refine P.nx _ _ _ h ?_
  have s4 := s1.mut1 (ys := (xs.set ia tb).set jb ta) (vs' := (vs.set ia vb0).set jb va0) tm et ep e2 fun G g q => by
    obtain ⟨g', h1, h2⟩ := Owns.swap q ha0 hb0 xa xb
    exact ⟨g', g, h1, .refl _, h2⟩
  exact s4.forget tm
end
end DL
namespace DL
open PySem PySem.Spec PyProof.Rows L2
section
variable {X : Cx} {W : WX} {ρ : Rho} {Φ : Ph} {o a b : Expr} {r : R} {t : T} {apos cpos pos p : Pos} {ps : List Int} {q : Int}
/-- xs.index(q), ints -/
theorem e_index (j : Nat) (ho : E X ρ o r) (hv : view ρ r = some t) (hd : isDL t (ps.map D.int)) (hb : E X ρ b (.tm (.d (.int q)))) (hj : ps[j]? = some q) (hno : ∀ i, i < j → ps[i]? ≠ some q)
    (hbase : attributeBase o "index" X.env (eval o X.env) = eval o X.env := by rfl)
    (hfew : ((backTo cpos (starEach [b] X.env)).all (fun x => !x.1) && (backToKw cpos (keywordEach [] X.env)).all (fun x => x.1.isSome)
      && decide ([b].length + ([] : List Keyword).length + (if ([] : List Keyword).isEmpty then 0 else 1) < 30)) = true := by rfl)
    (hline : (apos.endLine == cpos.line) = true := by rfl) (hs : starEach [b] X.env = (false, eval b X.env) :: starEach [] X.env := by rfl) (hplain : (backTo cpos (starEach [] X.env)).any (·.1) = false := by rfl) :
    E X ρ (.Call (.Attribute o "index" apos) [b] [] cpos) (.tm (.d (.int (j : Int)))) := fun c τ σ H s Q k =>
  te_of (pe_bm PySem.F.plainAttrs_list PySem.F.slot_list_index PySem.F.type_list_index mt_index peS (pa_cons peS pa_nil hs) hbase hfew hline hs hplain)
    (ho c τ σ H s _ fun v H1 s1 => by
      obtain ⟨G, f, sb, w, _⟩ := s1.top hv
      obtain ⟨ar, vs, e1, e2, e3⟩ := hd.at sb w
      refine ⟨by rw [e1]; exact .inl ⟨rfl, _, SqL.of e2⟩, hb c _ σ H1 s1 _ fun u H2 s2 => ?_⟩
      obtain rfl := s2.vint
      obtain ⟨G', f', sb', w', _⟩ := s2.pop.top hv
      obtain ⟨ar', vs', e1', e2', e3'⟩ := hd.at sb' w'
      have e4 := e3'.ints
      subst e1' e4
      refine ⟨ar', ps.map V.int, .int q, j, .int q, rfl, rfl, SqL.of e2', rfl, ?_, by rw [List.getElem?_map, hj]; rfl, by simp [eqV], fun m z hm hz => ?_, k _ _ s2.pop.pop.int⟩
      · rw [List.all_eq_true]
        intro z hz
        obtain ⟨i, _, rfl⟩ := List.mem_map.mp hz
        rfl
      · rw [List.getElem?_map] at hz
        obtain ⟨i, hi, rfl⟩ := Option.map_eq_some_iff.mp hz
        have : i ≠ q := fun e => hno m hm (e ▸ hi)
        simp [eqV, this])
def tp2 (q : Int × Int) : D := tpI [q.1, q.2]
def le2 (x y : Int × Int) : Prop := x.1 < y.1 ∨ (x.1 = y.1 ∧ x.2 ≤ y.2)
def keyV (H : Hp) (v : V) : Int × Int := match v with
  | .ref t => (match H t with
    | some (.tup [.int a, .int b]) => (a, b)
    | _ => (0, 0))
  | _ => (0, 0)
theorem key_of {K : PySem.W.Frag} {G H : Hp} (sb : Same G H) {v : V} {q : Int × Int} (h : Dr K G v (tp2 q)) : keyV H v = q ∧ ∃ t, v = .ref t ∧ H t = some (.tup [.int q.1, .int q.2]) := by
  obtain ⟨a, vs, e1, e2, e3⟩ := h.is_tup
  subst e1
  have e4 : vs = [V.int q.1, V.int q.2] := by
    cases e3 with | cons h1 h2 =>
    cases h2 with | cons h3 h4 =>
    cases h4
    cases h1; cases h3
    rfl
  subst e4
  have e5 := sb _ _ e2
  exact ⟨by unfold keyV; simp only [e5], a, rfl, e5⟩
theorem Drs.key {K : PySem.W.Frag} {G H : Hp} (sb : Same G H) : ∀ {vs : List V} {ps : List (Int × Int)}, Drs K G vs (ps.map tp2) → vs.map (keyV H) = ps ∧ ∀ v ∈ vs, Dr K G v (tp2 (keyV H v)) ∧ ∃ t, v = .ref t ∧ H t = some (.tup [.int (keyV H v).1, .int (keyV H v).2])
  | [], [], _ => ⟨rfl, fun _ h => nomatch h⟩
  | v :: vs, q :: ps, h => by
    cases h with | cons h1 h2 =>
    obtain ⟨k1, t, k2, k3⟩ := key_of sb h1
    obtain ⟨i1, i2⟩ := Drs.key sb h2
    refine ⟨by rw [List.map_cons, k1, i1], fun u hu => ?_⟩
    rcases List.mem_cons.mp hu with e | m
    · subst e
      rw [k1]
      exact ⟨h1, t, k2, k3⟩
    · exact i2 u m
  | [], _ :: _, h => by cases h
  | _ :: _, [], h => by cases h
theorem Drs.of_mem {K : PySem.W.Frag} {G : Hp} {g : V → D} : ∀ {vs : List V}, (∀ v ∈ vs, Dr K G v (g v)) → Drs K G vs (vs.map g)
  | [], _ => .nil
  | v :: vs, h => .cons (h v List.mem_cons_self) (Drs.of_mem fun u hu => h u (List.mem_cons_of_mem _ hu))
theorem e_sortedP {qs qs' : List (Int × Int)} (hm : X.mg "sorted" = none) (ha : E X ρ a r) (hv : view ρ r = some t) (hd : isDL t (qs.map tp2)) (hp : qs'.Perm qs) (hs : qs'.Pairwise le2) (hg : Gl X "sorted" := by rfl)
    (hst : starEach [a] X.env = (false, eval a X.env) :: starEach [] X.env := by rfl) (hpl : (backTo pos (starEach [] X.env)).any (·.1) = false := by rfl) : E X ρ (.Call (.Name "sorted" p) [a] [] pos) (.tm (.lst ((qs'.map tp2).map T.d))) :=
  e_bi cr_sortedPO hm ha (by decide +kernel) (fun c τ σ H v s Q k => by
    obtain ⟨G0, f0, sb0, w0, _⟩ := s.top hv
    obtain ⟨ar, vs, e1, e2, e3⟩ := hd.at sb0 w0
    subst e1
    obtain ⟨k1, k2⟩ := Drs.key sb0 e3
    refine ⟨ar, vs, keyV H, rfl, SqL.of e2, fun x hx => (k2 x hx).2, fun ys q srt stb hq => k _ _ ?_⟩
    have ey : ys.map (keyV H) = qs' := by
      refine List.Perm.eq_of_pairwise (le := le2) (fun x y _ _ h1 h2 => ?_) ?_ hs ?_
      · unfold le2 at h1 h2
        exact Prod.ext (by omega) (by omega)
      · rw [List.pairwise_map]
        refine List.Pairwise.imp (fun {x y} h => ?_) srt
        have := SrtO.lexB_no.mp h
        unfold le2
        omega
      · refine (stb.perm.map (keyV H)).trans ?_
        rw [k1]
        exact hp.symm
    refine s.newL (ds' := qs'.map tp2) hv hd hq fun G ar' vs' h1 h2 h3 => ?_
    cases h1
    rw [e2] at h2
    cases h2
    rw [← ey, List.map_map]
    refine Drs.of_mem fun y hy => ?_
    have hy' := stb.perm.mem_iff.mp hy
    -- the pair's data in this ground
    obtain ⟨i, hi, ei⟩ := List.mem_iff_getElem.mp hy'
    have hq0 : (qs.map tp2)[i]? = some (tp2 (keyV H y)) := by
      have z := congrArg (fun l : List (Int × Int) => l[i]?) k1
      simp only [List.getElem?_map] at z
      rw [List.getElem?_eq_getElem hi, ei] at z
      rw [List.getElem?_map, ← z]
      rfl
    obtain ⟨u, hu1, hu2⟩ := h3.get hq0
    rw [List.getElem?_eq_getElem hi, ei] at hu1
    cases hu1
    exact hu2) hg (by decide) (by decide) hst hpl
end
end DL
namespace DL
open PySem PySem.Spec PyProof.Rows L2
theorem at0_put0 : ∀ {p : List Nat} {t s0 s : T}, T.at0 p t = some s0 → T.at0 p (T.put0 p t s) = some s
  | [], _, _, _, _ => rfl
  | k :: p, t, s0, s, h => by
    cases t with
    | lst ts =>
      obtain ⟨x, h1, h2⟩ := Option.bind_eq_some_iff.mp (show (ts[k]?).bind (T.at0 p) = some s0 from h)
      show ((ts.modify k fun t => T.put0 p t s)[k]?).bind (T.at0 p) = some s
      rw [modify_at _ h1, List.getElem?_set_self (List.getElem?_eq_some_iff.mp h1).1]
      exact at0_put0 h2
    | tup ts =>
      obtain ⟨x, h1, h2⟩ := Option.bind_eq_some_iff.mp (show (ts[k]?).bind (T.at0 p) = some s0 from h)
      show ((ts.modify k fun t => T.put0 p t s)[k]?).bind (T.at0 p) = some s
      rw [modify_at _ h1, List.getElem?_set_self (List.getElem?_eq_some_iff.mp h1).1]
      exact at0_put0 h2
    | dct ts =>
      obtain ⟨x, h1, h2⟩ := Option.bind_eq_some_iff.mp (show (ts[k]?).bind (fun q => T.at0 p q.2) = some s0 from h)
      show ((ts.modify k fun q => (q.1, T.put0 p q.2 s))[k]?).bind (fun q => T.at0 p q.2) = some s
      rw [modify_at _ h1, List.getElem?_set_self (List.getElem?_eq_some_iff.mp h1).1]
      exact at0_put0 h2
    | _ => cases h
theorem put0_put0 : ∀ {p : List Nat} {t s0 s s' : T}, T.at0 p t = some s0 → T.put0 p (T.put0 p t s) s' = T.put0 p t s'
  | [], _, _, _, _, _ => rfl
  | k :: p, t, s0, s, s', h => by
    cases t with
    | lst ts =>
      obtain ⟨x, h1, h2⟩ := Option.bind_eq_some_iff.mp (show (ts[k]?).bind (T.at0 p) = some s0 from h)
      show T.lst ((ts.modify k fun t => T.put0 p t s).modify k fun t => T.put0 p t s') = T.lst (ts.modify k fun t => T.put0 p t s')
      have hk := (List.getElem?_eq_some_iff.mp h1).1
      rw [modify_at _ h1, modify_at _ h1, modify_at _ (List.getElem?_set_self hk), List.set_set, put0_put0 h2]
    | tup ts =>
      obtain ⟨x, h1, h2⟩ := Option.bind_eq_some_iff.mp (show (ts[k]?).bind (T.at0 p) = some s0 from h)
      show T.tup ((ts.modify k fun t => T.put0 p t s).modify k fun t => T.put0 p t s') = T.tup (ts.modify k fun t => T.put0 p t s')
      have hk := (List.getElem?_eq_some_iff.mp h1).1
      rw [modify_at _ h1, modify_at _ h1, modify_at _ (List.getElem?_set_self hk), List.set_set, put0_put0 h2]
    | dct ts =>
      obtain ⟨x, h1, h2⟩ := Option.bind_eq_some_iff.mp (show (ts[k]?).bind (fun q => T.at0 p q.2) = some s0 from h)
      show T.dct ((ts.modify k fun q => (q.1, T.put0 p q.2 s)).modify k fun q => (q.1, T.put0 p q.2 s')) = T.dct (ts.modify k fun q => (q.1, T.put0 p q.2 s'))
      have hk := (List.getElem?_eq_some_iff.mp h1).1
      rw [modify_at _ h1, modify_at _ h1, modify_at _ (List.getElem?_set_self hk), List.set_set, put0_put0 h2]
    | _ => cases h
def tIs' (xs : List Int) : T := .lst ((xs.map D.int).map T.d)
def tagRows (as : List Addr) (tb : List (List Int)) : List T := List.zipWith (fun a r => T.tag a (tIs' r)) as tb
section
variable {K : PySem.W.Frag} {G H : Hp}
theorem Owns.tagRows : ∀ {vs : List V} {tb : List (List Int)} {f : List Addr}, Owns K G H vs (tb.map tIs') f → ∃ as : List Addr, vs = as.map V.ref ∧ as.length = tb.length ∧ Owns K G H vs (DL.tagRows as tb) f
  | [], [], f, h => by cases h; exact ⟨[], rfl, rfl, .nil⟩
  | v :: vs, r :: tb, _, h => by
    cases h with | @cons _ _ _ _ f1 f2 h1 h2 =>
    obtain ⟨as, e1, e2, e3⟩ := Owns.tagRows h2
    obtain ⟨a, us, g, q1, q2, q3, q4⟩ := Own.is_lst h1
    subst q1
    exact ⟨a :: as, by rw [e1]; rfl, by simp [e2], .cons (.tag h1) e3⟩
  | [], _ :: _, _, h => by cases h
  | _ :: _, [], _, h => by cases h
theorem Owns.untag : ∀ {as : List Addr} {vs : List V} {tb : List (List Int)} {f : List Addr}, as.length = tb.length → Owns K G H vs (DL.tagRows as tb) f → Owns K G H vs (tb.map tIs') f
  | [], vs, [], f, _, h => h
  | a :: as, [], r :: tb, f, _, h => by cases h
  | a :: as, v :: vs, r :: tb, _, e, h => by
    cases h with | @cons _ _ _ _ f1 f2 h1 h2 =>
    cases h1 with | tag h1 =>
    exact .cons h1 (Owns.untag (by simpa using e) h2)
  | [], _, _ :: _, _, e, _ => by cases e
  | _ :: _, _, [], _, e, _ => by cases e
end
section
variable {K : PySem.W.Frag} {c : Cst} {ρ : Rho} {τ : List (V × R)} {σ : L2.St} {H : Hp} {n : Nat} {p : List Nat} {t0 : T}
/-- a part's reading changed, the heap not -/
theorem St.conv {s s' : T} (h : St K c ρ τ σ H) (tm : TmOnly τ) (et : ρ[n]? = some (some t0)) (ep : T.at0 p t0 = some s) (f : ∀ G v g, Own K G H v s g → Own K G H v s' g) : St K c (ρ.set n (some (T.put0 p t0 s'))) τ σ H := by
  obtain ⟨G, fs, ft, C, L, M⟩ := h
  obtain ⟨v, l1, g, l2, b1, b2, b3, b4⟩ := L.get et
  obtain ⟨u, m1, g', m2, c1, c2, c3, c4⟩ := Own.focus0 b3 ep
  have w := c4 G H s' g' (Same.refl _) (.of (Same.refl _)) (f G u g' c3)
  rw [← c1] at w
  have w2 := b4 G H v _ g (Same.refl _) (.of (Same.refl _)) w
  rw [list_set_none b1, ← b2] at w2
  exact ⟨G, fs, ft, C, w2, M.move (Same.refl _) tm (.of (Same.refl _))⟩
/-- the rows' addresses told -/
theorem St.tagIn {v : V} {tb : List (List Int)} (h : St K c ρ ((v, .pl n p) :: τ) σ H) (tm : TmOnly τ) (et : ρ[n]? = some (some t0)) (hq : t0.strip = t0) (ep : T.at0 p t0 = some (.lst (tb.map tIs'))) : ∃ a as vs, v = .ref a ∧ H a = some (.lst vs) ∧ as.length = tb.length ∧ St K c (ρ.set n (some (T.put0 p t0 (.tag a (.lst (tagRows as tb)))))) τ σ H := by
  obtain ⟨G, fs, ft, C, L, M⟩ := h
  cases M with | @pl _ _ _ _ u0 t1 s0 fM a1 a2 a3 a4 M =>
  obtain ⟨w, l1, g, l2, b1, b2, b3, b4⟩ := L.get et
  rw [a1] at b1
  cases b1
  obtain ⟨u, m1, g', m2, c1, c2, c3, c4⟩ := Own.focus0 b3 ep
  rw [a4] at c2
  cases c2
  obtain ⟨a, vs, g0, q1, q2, q3, q4⟩ := Own.is_lst c3
  obtain ⟨as, e1, e2, e3⟩ := Owns.tagRows q4
  subst q1
  have w := c4 G H (.tag a (.lst (tagRows as tb))) g' (Same.refl _) (.of (Same.refl _)) (.tag (by rw [q2]; exact .lst q3 e3))
  rw [← c1] at w
  have w2 := b4 G H u0 _ g (Same.refl _) (.of (Same.refl _)) w
  rw [list_set_none a1, ← b2] at w2
  exact ⟨a, as, vs, rfl, q3, e2, G, fs, ft, C, w2, M.move (Same.refl _) tm (.of (Same.refl _))⟩
/-- a tagged row grows -/
theorem St.bump {a ai : Addr} {rows : List T} {i : Nat} {r : List Int} {z : Int} (h : St K c ρ τ σ H) (tm : TmOnly τ) (et : ρ[n]? = some (some t0)) (ep : T.at0 p t0 = some (.tag a (.lst rows))) (hi : rows[i]? = some (.tag ai (tIs' r))) :
    H ai = some (.lst (r.map V.int)) ∧ (∃ vs, H a = some (.lst vs) ∧ vs[i]? = some (.ref ai) ∧ vs.length = rows.length) ∧ St K c (ρ.set n (some (T.put0 p t0 (.tag a (.lst (rows.set i (.tag ai (tIs' (r ++ [z])))))))))  τ σ (upd H ai (.lst ((r ++ [z]).map V.int))) := by
  obtain ⟨G, fs, ft, C, L, M⟩ := h
  obtain ⟨v, l1, g, l2, b1, b2, b3, b4⟩ := L.get et
  obtain ⟨u, m1, g', m2, c1, c2, c3, c4⟩ := Own.focus0 b3 ep
  cases c3 with | tag c3 =>
  obtain ⟨a', vs, g0, q1, q2, q3, q4⟩ := Own.is_lst c3
  cases q1
  obtain ⟨vi, k1, fi, k2, d1, d2, d3, d4⟩ := Owns.get q4 hi
  cases d3 with | tag d3 =>
  obtain ⟨ai', us, g1, x1, x2, x3, x4⟩ := Own.is_lst d3
  cases x1
  obtain ⟨x5, x6⟩ := Owns.ds rfl x4
  have x7 := x5.ints
  subst x6 x7 x2
  -- where ai is not
  have nd := C.nd
  have hcount : fs ++ ft = l1 ++ (m1 ++ (a :: (k1 ++ [ai] ++ k2)) ++ m2) ++ l2 ++ ft := by rw [b2, c1, q2, d2]
  rw [hcount] at nd
  have P1 : (l1 ++ (m1 ++ (a :: (k1 ++ [ai] ++ k2)) ++ m2) ++ l2 ++ ft).Perm (ai :: a :: (k1 ++ k2 ++ (m1 ++ m2) ++ (l1 ++ l2) ++ ft)) := by
    rw [List.perm_iff_count]; intro z; simp only [List.count_append, List.count_cons, List.count_nil]; omega
  have nd2 := P1.nodup_iff.mp nd
  obtain ⟨na, _⟩ := List.nodup_cons.mp nd2
  have nai : ai ∉ a :: (k1 ++ k2 ++ (m1 ++ m2) ++ (l1 ++ l2) ++ ft) := na
  have hown := C.own ai (by rw [hcount]; exact P1.mem_iff.mpr List.mem_cons_self)
  have nea : a ≠ ai := fun e => nai (by rw [e]; exact List.mem_cons_self)
  refine ⟨x3, ⟨vs, q3, d1, by rw [q4.len]⟩, ?_⟩
  let H' := upd H ai (.lst ((r ++ [z]).map V.int))
  have o1 : On (k1 ++ k2) H H' := On.upd fun m => nai (by rcases List.mem_append.mp m with m | m <;> simp [m])
  have o2 : On (m1 ++ m2) H H' := On.upd fun m => nai (by rcases List.mem_append.mp m with m | m <;> simp [m])
  have o3 : On (l1 ++ l2) H H' := On.upd fun m => nai (by rcases List.mem_append.mp m with m | m <;> simp [m])
  have o4 : On ft H H' := On.upd fun m => nai (by simp [m])
  have w0 : Own K G H' (.ref ai) (.tag ai (tIs' (r ++ [z]))) [ai] := .tag (.lst upd_same (Owns.of_ds Drs.of_ints))
  have w1 := d4 G H' (.ref ai) _ _ (Same.refl _) o1 w0
  have eset : vs.set i (V.ref ai) = vs := by
    obtain ⟨hk, ek⟩ := List.getElem?_eq_some_iff.mp d1
    rw [← ek, List.set_getElem_self]
  rw [eset] at w1
  have w2 : Own K G H' (.ref a) (.tag a (.lst (rows.set i (.tag ai (tIs' (r ++ [z])))))) (a :: (k1 ++ [ai] ++ k2)) := .tag (.lst (by show upd H ai _ a = _; rw [upd_ne nea]; exact q3) w1)
  have w3 := c4 G H' _ _ (Same.refl _) o2 w2
  have w4 := b4 G H' v _ _ (Same.refl _) o3 w3
  rw [list_set_none b1] at w4
  refine ⟨G, _, ft, ⟨fun b o e => ?_, C.base, C.newG, fun b o e nf => ?_, fun b o e => ?_, nd, fun b m => C.own b (by rw [hcount]; exact m)⟩, w4, M.move (Same.refl _) tm o4⟩
  · have : b ≠ ai := fun z => by rw [z, hown.1] at e; cases e
    show upd H ai _ b = _
    rw [upd_ne this]; exact C.sub b o e
  · have : b ≠ ai := fun z => by
      subst z
      rcases hown.2 with y | y
      · exact nf y
      · rw [y] at e; cases e
    show upd H ai _ b = _
    rw [upd_ne this]; exact C.prot b o e nf
  · by_cases hb : b = ai
    · subst hb; exact ⟨_, upd_same⟩
    · obtain ⟨o', q⟩ := C.there b o e
      exact ⟨o', by show upd H ai _ b = _; rw [upd_ne hb]; exact q⟩
end
def mixed (tb : List (List Int)) (z : Int) (i : Nat) : List (List Int) := (tb.take i).map (· ++ [z]) ++ tb.drop i
theorem mixed_len {tb : List (List Int)} {z : Int} {i : Nat} : (mixed tb z i).length = tb.length := by
  unfold mixed
  rw [List.length_append, List.length_map, List.length_take, List.length_drop]; omega
theorem mixed_at {tb : List (List Int)} {z : Int} {i : Nat} {r : List Int} (h : tb[i]? = some r) : (mixed tb z i)[i]? = some r := by
  have hi := (List.getElem?_eq_some_iff.mp h).1
  unfold mixed
  rw [List.getElem?_append_right (by rw [List.length_map, List.length_take]; omega), List.length_map, List.length_take, List.getElem?_drop]
  rw [show i + (i - min i tb.length) = i from by omega]
  exact h
theorem mixed_next {tb : List (List Int)} {z : Int} {i : Nat} {r : List Int} (h : tb[i]? = some r) : (mixed tb z i).set i (r ++ [z]) = mixed tb z (i + 1) := by
  obtain ⟨hi, e⟩ := List.getElem?_eq_some_iff.mp h
  have hl : ((tb.take i).map (· ++ [z])).length = i := by rw [List.length_map, List.length_take]; omega
  unfold mixed
  rw [List.drop_eq_getElem_cons hi, e, List.set_append_right _ _ (by omega), hl, Nat.sub_self, List.set_cons_zero, List.take_succ, h, List.map_append]
  simp
theorem mixed_end {tb : List (List Int)} {z : Int} : mixed tb z tb.length = tb.map (· ++ [z]) := by
  unfold mixed
  rw [List.take_length, List.drop_length, List.append_nil]
theorem tagRows_set {as : List Addr} {tb : List (List Int)} {i : Nat} {ai : Addr} {r : List Int} (h : as[i]? = some ai) : (tagRows as tb).set i (.tag ai (tIs' r)) = tagRows as (tb.set i r) := by
  unfold tagRows
  obtain ⟨hi, e⟩ := List.getElem?_eq_some_iff.mp h
  refine List.ext_getElem (by simp) fun j h1 h2 => ?_
  simp only [List.length_set, List.length_zipWith] at h1
  rw [List.getElem_set, List.getElem_zipWith]
  by_cases q : i = j
  · subst q
    rw [if_pos rfl, List.getElem_zipWith, List.getElem_set_self, e]
  · rw [if_neg q, List.getElem_zipWith, List.getElem_set_ne q]
section
variable {X : Cx} {W : WX} {ρ : Rho} {Φ : Ph} {iter : Expr} {t0 : T} {tb : List (List Int)} {rn : Str} {z : Int} {kk : Nat} {p1 p2 apos cpos spos pos' pos : Pos} {p : List Nat}
theorem s_forApp (r n : Nat) {k : Nat} (Y : Bx X W k) (hi : E X ρ iter (.pl n p)) (et : ρ[n]? = some (some t0)) (hq : t0.strip = t0) (ep : T.at0 p t0 = some (.lst (tb.map tIs'))) (hlen : ∀ q ∈ tb, q.length < 1000000) (h : Φ.nx ((ρ.set n (some (T.put0 p t0 (.lst ((tb.map (· ++ [z])).map tIs'))))).set r none)) (hrn : r ≠ n := by decide)
    (hρ : Nat.ble (r + 1) ρ.length = true := by rfl) (Nr : X.N[r]? = some rn := by rfl) (lr : Loc X.env.scope rn := by first | exact Or.inl rfl | exact Or.inr rfl) (fr : X.fn rn = true ∨ X.env.scope.names.lookup rn = some .local := by first | exact .inl rfl | exact .inr rfl | assumption)
    (vr : Vis X.env.scope rn := by first | exact Or.inl rfl | exact Or.inr (Or.inl rfl) | exact Or.inr (Or.inr rfl)) (dr : (rn == ("__debug__" : Str)) = false := by decide) (cr : (rn == ("__classdict__" : Str)) = false := by decide) (hs : ∀ x, foldedSetIterable iter X.env x = pure x := by intro _; rfl)
    (hbase : attributeBase (.Name rn p1) "append" X.env (eval (.Name rn p1) X.env) = eval (.Name rn p1) X.env := by rfl)
    (hfew : ((backTo cpos (starEach [.Constant (.int z) kk p2] X.env)).all (fun x => !x.1) && (backToKw cpos (keywordEach [] X.env)).all (fun x => x.1.isSome)
      && decide ([Expr.Constant (.int z) kk p2].length + ([] : List Keyword).length + (if ([] : List Keyword).isEmpty then 0 else 1) < 30)) = true := by rfl)
    (hline : (apos.endLine == cpos.line) = true := by rfl) (hst : starEach [.Constant (.int z) kk p2] X.env = (false, eval (.Constant (.int z) kk p2) X.env) :: starEach [] X.env := by rfl) (hplain : (backTo cpos (starEach [] X.env)).any (·.1) = false := by rfl)
    (hsw : swapsWith (.Call (.Attribute (.Name rn p1) "append" apos) [.Constant (.int z) kk p2] [] cpos) none spos.line X.env = pure false := by rfl) :
    S1 X W ρ (.For (.Name rn pos') iter [.Expr (.Call (.Attribute (.Name rn p1) "append" apos) [.Constant (.int z) kk p2] [] cpos) spos] [] pos) Φ := fun c τ σ H tm s D P =>
  ts_of (ps_for Y.passes Y.calm piSS (pg_name Y.nd Nr lr fr) (pss_one (ps_expr (pe_bm PySem.F.plainAttrs_list PySem.F.slot_list_append PySem.F.type_list_append mt_append (pe_var Nr vr dr cr) (pa_cons pe_int pa_nil hst) hbase hfew hline hst hplain) hsw)) hs) (pi_of (pi_list peS) (hi c τ σ H s _ fun v H1 s1 => by
    obtain ⟨a, as, vs0, e1, e2, e3, s2⟩ := s1.tagIn tm et hq ep
    have hn : n < ρ.length := (List.getElem?_eq_some_iff.mp et).1
    have hrl : r < ρ.length := Nat.le_of_ble_eq_true hρ
    refine ⟨a, e1, ⟨vs0, SqL.of e2⟩, fun i m σ H => m = tb.length - i ∧ i ≤ tb.length ∧ St X.K c ((ρ.set n (some (T.put0 p t0 (.tag a (.lst (tagRows as (mixed tb z i))))))).set r none) τ σ H, ⟨_, rfl, Nat.zero_le _, ?_⟩, ?_⟩
    · have s3 := s2.forget (i := r) (x := σ[r]?.join) tm
      have e : σ.set r (σ[r]?.join) = σ := by
        have hr' : r < σ.length := by rw [← s1.len]; exact hrl
        rw [List.getElem?_eq_getElem hr']
        show σ.set r σ[r] = σ
        rw [List.set_getElem_self]
      rw [e] at s3
      have e0 : mixed tb z 0 = tb := by unfold mixed; simp
      rw [e0]
      exact s3
    rintro i m σ2 H2 ⟨rfl, hi, s3⟩
    have et3 : ((ρ.set n (some (T.put0 p t0 (.tag a (.lst (tagRows as (mixed tb z i))))))).set r none)[n]? = some (some (T.put0 p t0 (.tag a (.lst (tagRows as (mixed tb z i)))))) := by
      rw [List.getElem?_set_ne hrn, List.getElem?_set_self hn]
    have ep3 : T.at0 p (T.put0 p t0 (.tag a (.lst (tagRows as (mixed tb z i))))) = some (.tag a (.lst (tagRows as (mixed tb z i)))) := at0_put0 ep
    by_cases hlt : i < tb.length
    · obtain ⟨rw0, hrw⟩ : ∃ q, tb[i]? = some q := ⟨_, List.getElem?_eq_getElem hlt⟩
      obtain ⟨ai, hai⟩ : ∃ q, as[i]? = some q := ⟨_, List.getElem?_eq_getElem (by rw [e3]; exact hlt)⟩
      have hrow : (tagRows as (mixed tb z i))[i]? = some (.tag ai (tIs' rw0)) := by
        unfold tagRows
        rw [List.getElem?_zipWith, hai, mixed_at hrw]
      obtain ⟨b1, ⟨vs, b2, b3, b4⟩, s4⟩ := s3.bump (z := z) tm et3 ep3 hrow
      refine .inr ⟨⟨vs, .ref ai, SqL.of b2, b3⟩, fun σ' H' => St X.K c ((ρ.set n (some (T.put0 p t0 (.tag a (.lst (tagRows as (mixed tb z (i + 1)))))))).set r none) τ σ' H', fun σ' H' s' => ⟨tb.length - (i + 1), by omega, rfl, hlt, s'⟩, fun v' H3 ⟨eH, y⟩ => ?_⟩
      subst eH
      have y1 := y vs (SqL.of b2)
      rw [b3] at y1
      cases y1
      have hr' : r < σ2.length := by rw [← s3.len]; simp; exact hrl
      have hlr := hlen rw0 (List.mem_of_getElem? hrw)
      refine ⟨.ref ai, List.getElem?_set_self hr', .inl ⟨rfl, _, SqL.of b1⟩, ai, rw0.map V.int, .int z, rfl, rfl, b1, by rw [List.length_map, sizeLine_eq]; omega, ?_⟩
      have s5 := s4.forget (i := r) (x := some (V.ref ai)) tm
      have eR : ((((ρ.set n (some (T.put0 p t0 (.tag a (.lst (tagRows as (mixed tb z i))))))).set r none).set n (some (T.put0 p (T.put0 p t0 (.tag a (.lst (tagRows as (mixed tb z i))))) (.tag a (.lst ((tagRows as (mixed tb z i)).set i (.tag ai (tIs' (rw0 ++ [z]))))))))).set r none) = (ρ.set n (some (T.put0 p t0 (.tag a (.lst (tagRows as (mixed tb z (i + 1)))))))).set r none := by
        rw [put0_put0 ep, tagRows_set hai, mixed_next hrw, List.set_comm _ _ hrn, List.set_set, List.set_set]
      rw [eR] at s5
      have eV : (rw0.map V.int ++ [V.int z]) = (rw0 ++ [z]).map V.int := by rw [List.map_append]; rfl
      rw [eV]
      exact s5
    · have e : i = tb.length := by omega
      subst e
      have s4 := s3.conv (s' := .lst ((tb.map (· ++ [z])).map tIs')) tm et3 ep3 fun G v g w => by
        cases w with | tag w =>
        obtain ⟨a', vs, g0, q1, q2, q3, q4⟩ := Own.is_lst w
        cases q1
        subst q2
        rw [mixed_end] at q4
        exact .lst q3 (Owns.untag (by rw [e3, List.length_map]) q4)
      obtain ⟨G, fs, ft, C, L, M⟩ := s3
      obtain ⟨u0, l1, g, l2, c1, c2, c3, c4⟩ := L.get et3
      obtain ⟨u, m1, g', m2, d1, d2, d3, d4⟩ := Own.focus0 c3 ep3
      cases d3 with | tag d3 =>
      obtain ⟨a', vs, g0, q1, q2, q3, q4⟩ := Own.is_lst d3
      cases q1
      have hvl : vs.length = tb.length := by
        rw [q4.len]
        unfold tagRows
        rw [List.length_zipWith, e3, mixed_len]; omega
      refine .inl ⟨⟨vs, SqL.of q3, by omega⟩, P.nx _ _ _ ?_ s4⟩
      rw [put0_put0 ep, List.set_comm _ _ hrn, List.set_set]
      exact h))
end
section
variable {X : Cx} {W : WX} {ρ : Rho} {Φ : Ph} {e1 e2 e3 : Expr} {t : T} {nm : Str} {k j n : Nat} {S : SpecM} {pos p spos : Pos} {x1 x3 : D}
/-- f(d, x, e), x a name whose tree is changed -/
theorem s_callM3 (n : Nat) (Y : Bx X W j) (F : KnMu X.prog X.w X.K X.mg X.base nm k S) (hr : Room k X.A) (h1 : E X ρ e1 (.tm (.d x1))) (h2 : E X ρ e2 (.pl n [])) (h3 : E X ρ e3 (.tm (.d x3))) (x : S.α) (hx1 : S.enc x = [x1]) (hx2 : S.enc2 x = [x3]) (ht : S.tree x = t) (hq : t.strip = t) (hpre : S.pre x) (hp : ∀ t', S.post x t' → Φ.nx (ρ.set n (some t')))
    (hlst : ∃ ts, t = .lst ts) (et : ρ[n]? = some (some t) := by rfl) (hs : swapsWith (.Call (.Name nm p) [e1, e2, e3] [] pos) none spos.line X.env = pure false := by rfl) (hg : Gl X nm := by rfl) (hdb : (nm == ("__debug__" : Str)) = false := by decide)
    (s1 : starEach [e1, e2, e3] X.env = (false, eval e1 X.env) :: starEach [e2, e3] X.env := by rfl) (s2 : starEach [e2, e3] X.env = (false, eval e2 X.env) :: starEach [e3] X.env := by rfl) (s3 : starEach [e3] X.env = (false, eval e3 X.env) :: starEach [] X.env := by rfl) (hpl : (backTo pos (starEach [e2, e3] X.env)).any (·.1) = false := by rfl) : S1 X W ρ (.Expr (.Call (.Name nm p) [e1, e2, e3] [] pos) spos) Φ := fun c τ σ H tm s D P => by
  obtain ⟨f, fd, ps, F, hm, hk, hb⟩ := F
  refine ts_of (ps_expr (pe_callS (E := WE W) F hr hg hm hk hb (fun σ => passAt Y.takes σ) (pa_cons peS (pa_cons peS (pa_cons peS pa_nil s3) s2) s1) hdb s1 hpl) hs) (h1 c τ σ H s _ fun v1 H1 st1 => h2 c _ σ H1 st1 _ fun v2 H2 st2 => h3 c _ σ H2 st2 _ fun v3 H3 st3 => ?_)
  obtain ⟨G, fs, ft, C, L, M⟩ := st3
  cases M with | @tm _ _ _ f3 f4 m3 M =>
  obtain ⟨d3, rfl⟩ := m3.is_d
  cases M with | @pl _ _ _ _ u0 t0 s0 fM a1 a2 a3 a4 M =>
  cases M with | @tm _ _ _ f1 f2 m1 m2 =>
  obtain ⟨d1, rfl⟩ := m1.is_d
  obtain ⟨w, l1, g, l2, b1, b2, b3, b4⟩ := L.get et
  rw [a1] at b1
  cases b1
  have e4 : u0 = v2 := by simpa [atV] using a4
  subst e4 b2
  obtain ⟨ts, rfl⟩ := hlst
  obtain ⟨ar, vs, g0, q1, _, _, _⟩ := b3.is_lst
  subst q1
  have hsub : g.Sublist ((l1 ++ g ++ l2) ++ ([] ++ ([] ++ f2))) := (List.sublist_append_right l1 g).trans ((List.sublist_append_left _ l2).trans (List.sublist_append_left _ _))
  refine ⟨G, x, [v1], [v3], ar, g, rfl, C.sub, by rw [hx1]; exact .cons d1 .nil, by rw [hx2]; exact .cons d3 .nil, by rw [ht]; exact b3, hsub.nodup C.nd, fun b m => (C.own b (hsub.subset m)).1, hpre, fun t' hp' H' G' fp' A w' nd fr => P.nx _ _ _ (hp t' hp') ?_⟩
  refine St.afterM (t := .lst ts) (ft := f2) (by simpa using C) tm (fun b m => ?_) b4 (list_set_none a1) m2 A w' nd fr
  have LT := L.there
  rcases List.mem_append.mp m with m | m
  · refine LT b ?_
    rcases List.mem_append.mp m with m | m <;> simp [m]
  · exact m2.there b m
end
end DL
namespace DL
open PySem PySem.Spec PyProof.Rows L2
def rRemD (K : PySem.W.Frag) : V → List V → Hp → VK → Prop := fun x xs H Q => ∃ (l : Addr) (vs : List V) (y : V) (d : PyData) (ds : List PyData) (j : Nat) (z : PyData), x = .ref l ∧ xs = [y] ∧ H l = some (.lst vs) ∧ DpAll K H vs ds ∧ Dp K H y d ∧
  SeqAt.shaped (.list ds) = true ∧ SeqAt.shaped d = true ∧ ds[j]? = some z ∧ PyData.eqv z d = true ∧ (∀ (m : Nat) (z' : PyData), m < j → ds[m]? = some z' → PyData.eqv z' d = false) ∧ Q .non (upd H l (.lst (vs.eraseIdx j)))
theorem mt_removeD {X : Cx} (hu : X.A.units + 65 < cLine) : MtM X "list.remove" (rRemD X.K) := by
  intro pins s σ H x xs v us Q I rx rxs h
  obtain ⟨l, vs, y, d, ds, j, zz, rfl, rfl, hH, ha, hy, sl, sd, hz, hzj, hno, q⟩ := h
  cases rx
  obtain ⟨u, rfl, ru⟩ := rxs.one
  obtain ⟨z, its, n, r, hl, e⟩ := I.lstM hH
  obtain ⟨bs, r1⟩ := Dp.reads I d y u hy ru
  have hxs : PyData.canLayAll0 ds = true := SeqAt.canLay_of_shaped sl
  have hroom : X.A.units + 1 + min (PyData.depthAll ds) d.depth < cLine := room_in_shaped sd hu
  obtain ⟨as, h4⟩ := Dp.readsAll I ds _ its ha r
  have hn : its.length = ds.length := SeqAt.ReadsAll.length ds its as h4
  have hmap : its.map (SeqAt.readOf s.heap) = ds := SeqAt.readsAll_map ds its as hxs h4
  have hsl := sizeLine_eq
  obtain ⟨hjd, _⟩ := List.getElem?_eq_some_iff.mp hz
  have hj : j < its.toArray.size := by rw [List.size_toArray]; omega
  have at_ : ∀ (m : Nat) (hm : m < its.toArray.size) (z' : PyData), ds[m]? = some z' → SeqAt.readOf s.heap its.toArray[m] = z' := by
    intro m hm z' hz'
    have hml : m < its.length := by simpa using hm
    rw [← hmap, List.getElem?_map, List.getElem?_eq_getElem hml] at hz'
    have e1 : SeqAt.readOf s.heap its[m] = z' := Option.some.inj (show some (SeqAt.readOf s.heap its[m]) = some z' from hz')
    simpa using e1
  refine call_meets PySem.F.slot_list_remove ⟨_, e, rfl⟩ PySem.F.entry_list_remove (PySem.F.args_list_remove_2 _ _)
    (SeqAt.list_removeAt l its.toArray n none #[] u (fun u => PyData.eqv (SeqAt.readOf s.heap u) d) j hj ?_ ?_ (by rw [List.size_toArray]; omega)) ⟨e, SeqAt.items_eqAt (vs := its.toArray) (show ReadsAll s.heap its.toArray.toList ds as from h4) r1 hxs (SeqAt.canLay_of_shaped sd) hroom, ?_⟩
  · show PyData.eqv (SeqAt.readOf s.heap its.toArray[j]) d = true
    rw [at_ j hj zz hz]
    exact hzj
  · intro m hm hmj
    have hmd : m < ds.length := by omega
    have hz' : ds[m]? = some ds[m] := List.getElem?_eq_getElem hmd
    show PyData.eqv (SeqAt.readOf s.heap its.toArray[m]) d = false
    rw [at_ m hm _ hz']
    exact hno m _ hmj hz'
  · refine ⟨.non, _, I.lset (its' := its.eraseIdx j) hH e ?_ (r.eraseIdx j) ?_, rfl, q⟩
    · have hj2 : j < its.length := by simpa using hj
      simp [Array.eraseIdxIfInBounds, hj2, List.eraseIdx_toArray]
    · have := List.length_eraseIdx_le vs j
      omega
theorem tp2_inj (x y : Int × Int) : PyData.eqv (tp2 x).py (tp2 y).py = decide (x = y) := by
  unfold tp2
  have e : PyData.eqv (tpI [x.1, x.2]).py (tpI [y.1, y.2]).py = (PyData.eqv (.int x.1) (.int y.1) && (PyData.eqv (.int x.2) (.int y.2) && true)) := by
    rw [tpI_py, tpI_py]
    rfl
  have e1 : PyData.eqv (.int x.1) (.int y.1) = decide (x.1 = y.1) := eqv_int _ _
  have e2 : PyData.eqv (.int x.2) (.int y.2) = decide (x.2 = y.2) := eqv_int _ _
  rw [e, e1, e2, Bool.and_true, ← Bool.decide_and]
  exact decide_eq_decide.mpr ⟨fun h => Prod.ext h.1 h.2, fun h => by rw [h]; exact ⟨rfl, rfl⟩⟩
theorem idx_lt {α : Type} [BEq α] [LawfulBEq α] {s : α} : ∀ {ps : List α} {i : Nat}, i < ps.idxOf s → ps[i]? ≠ some s
  | [], i, h => by simp
  | p :: ps, i, h => by
    rw [List.idxOf_cons] at h
    by_cases e : (p == s) = true
    · rw [e] at h
      cases h
    · have hb : (p == s) = false := by simpa using e
      rw [hb] at h
      cases i with
      | zero =>
        intro z
        have z : p = s := by simpa using z
        exact e (by rw [z]; simp)
      | succ i =>
        intro z
        exact idx_lt (ps := ps) (i := i) (by simpa using h) (by simpa using z)
section
variable {X : Cx} {W : WX} {ρ : Rho} {Φ : Ph} {o b : Expr} {t0 : T} {qs : List (Int × Int)} {q : Int × Int} {apos cpos spos : Pos} {n : Nat} {p : List Nat}
/-- xs.remove(q), xs pairs -/
theorem s_removeP {k : Nat} (Y : Bx X W k) (ho : E X ρ o (.pl n p)) (hi : E X ρ b (.tm (.d (tp2 q)))) (et : ρ[n]? = some (some t0)) (ep : T.at p t0 = some (.lst ((qs.map tp2).map T.d))) (hq : q ∈ qs) (h : Φ.nx (ρ.set n (some (T.put p t0 (.lst (((qs.erase q).map tp2).map T.d))))))
    (hbase : attributeBase o "remove" X.env (eval o X.env) = eval o X.env := by rfl)
    (hfew : ((backTo cpos (starEach [b] X.env)).all (fun x => !x.1) && (backToKw cpos (keywordEach [] X.env)).all (fun x => x.1.isSome)
      && decide ([b].length + ([] : List Keyword).length + (if ([] : List Keyword).isEmpty then 0 else 1) < 30)) = true := by rfl)
    (hline : (apos.endLine == cpos.line) = true := by rfl) (hs : starEach [b] X.env = (false, eval b X.env) :: starEach [] X.env := by rfl) (hplain : (backTo cpos (starEach [] X.env)).any (·.1) = false := by rfl)
    (hsw : swapsWith (.Call (.Attribute o "remove" apos) [b] [] cpos) none spos.line X.env = pure false := by rfl) :
    S1 X W ρ (.Expr (.Call (.Attribute o "remove" apos) [b] [] cpos) spos) Φ := fun c τ σ H tm s Dn P =>
  ts_of (ps_expr (pe_bm PySem.F.plainAttrs_list PySem.F.slot_list_remove PySem.F.type_list_remove (mt_removeD (by have := Y.room.un; omega)) peS (pa_cons peS pa_nil hs) hbase hfew hline hs hplain) hsw)
    (ho c τ σ H s _ fun v H1 s1 => by
      obtain ⟨G, f, sb, w, _⟩ := s1.top (view_pl et ep)
      obtain ⟨ar, vs, g, e1, _, e2, e3⟩ := w.is_lst
      refine ⟨by rw [e1]; exact .inl ⟨rfl, _, SqL.of e2⟩, hi c _ σ H1 s1 _ fun u H2 s2 => ?_⟩
      obtain ⟨G', f', sb', w', _⟩ := s2.pop.top (view_pl et ep)
      obtain ⟨ar', vs', g', e1', _, e2', e3'⟩ := w'.is_lst
      obtain ⟨dr, _⟩ := Owns.ds rfl e3'
      have dq := s2.see (t := .d (tp2 q)) rfl
      have hall : ∀ d ∈ qs.map tp2, d.ok 1 := fun d hd => by
        obtain ⟨y, _, rfl⟩ := List.mem_map.mp hd
        exact ok_tpI _
      have ix := List.idxOf_lt_length_iff.mpr hq
      refine ⟨ar', vs', u, (tp2 q).py, D.pys (qs.map tp2), qs.idxOf q, (tp2 q).py, e1', rfl, e2', Drs.py _ 1 _ hall (dr.mono sb'), Dr.py _ 1 _ (ok_tpI _) dq, ?_, D.shaped (ok_tpI _) (by decide), ?_, by rw [tp2_inj]; simp, fun m z' hm hz => ?_, P.nx _ _ _ h ?_⟩
      · exact D.shaped (n := 2) (d := .lst (qs.map tp2)) hall (by decide)
      · rw [D.pys_map, List.map_map, List.getElem?_map, List.getElem?_eq_getElem ix, List.getElem_idxOf ix]
        rfl
      · rw [D.pys_map, List.map_map, List.getElem?_map] at hz
        obtain ⟨y, hy, rfl⟩ := Option.map_eq_some_iff.mp hz
        show PyData.eqv (tp2 y).py (tp2 q).py = false
        rw [tp2_inj]
        refine decide_eq_false fun e => ?_
        subst e
        obtain ⟨h1, h2⟩ := List.getElem?_eq_some_iff.mp hy
        exact absurd (idx_lt hm) (by rw [hy]; simp)
      · have s3 := s2.pop
        rw [e1'] at s3
        refine s3.mut1 tm et ep e2' fun G g q' => ?_
        obtain ⟨g2, sub, w2⟩ := Owns.erase (qs.idxOf q) q'
        have ee : ((qs.map tp2).map T.d).eraseIdx (qs.idxOf q) = ((qs.erase q).map tp2).map T.d := by
          rw [List.erase_eq_eraseIdx_of_idxOf rfl]
          clear hall dr w w' e3 e3' w2 sub s3 q' et ep h hq ix
          have me : ∀ {α β : Type} {f : α → β} {l : List α} {i : Nat}, (l.map f).eraseIdx i = (l.eraseIdx i).map f := by
            intro α β f l
            induction l with
            | nil => intro i; simp
            | cons a l ih => intro i; cases i <;> simp [ih]
          rw [me, me]
        rw [ee] at w2
        exact ⟨g2, g2, .refl _, sub, w2⟩)
end
end DL
namespace DL
open PySem PySem.Spec PyProof.Rows L2
def rIdxD (K : PySem.W.Frag) : V → List V → Hp → VK → Prop := fun x xs H Q => ∃ (l : Addr) (vs : List V) (y : V) (d : PyData) (ds : List PyData) (j : Nat) (z : PyData), x = .ref l ∧ xs = [y] ∧ H l = some (.lst vs) ∧ DpAll K H vs ds ∧ Dp K H y d ∧
  SeqAt.shaped (.list ds) = true ∧ SeqAt.shaped d = true ∧ ds[j]? = some z ∧ PyData.eqv z d = true ∧ (∀ (m : Nat) (z' : PyData), m < j → ds[m]? = some z' → PyData.eqv z' d = false) ∧ Q (.int (j : Int)) H
theorem mt_indexD {X : Cx} (hu : X.A.units + 65 < cLine) : MtR X "list.index" (rIdxD X.K) := by
  intro pins s σ H x xs v us Q I rx rxs h
  obtain ⟨l, vs, y, d, ds, j, zz, rfl, rfl, hH, ha, hy, sl, sd, hz, hzj, hno, q⟩ := h
  cases rx
  obtain ⟨u, rfl, ru⟩ := rxs.one
  obtain ⟨z, its, n, r, hl, e⟩ := I.lstM hH
  obtain ⟨bs, r1⟩ := Dp.reads I d y u hy ru
  have hxs : PyData.canLayAll0 ds = true := SeqAt.canLay_of_shaped sl
  have hroom : X.A.units + 1 + min (PyData.depthAll ds) d.depth < cLine := room_in_shaped sd hu
  obtain ⟨as, h4⟩ := Dp.readsAll I ds _ its ha r
  have hn : its.length = ds.length := SeqAt.ReadsAll.length ds its as h4
  have hmap : its.map (SeqAt.readOf s.heap) = ds := SeqAt.readsAll_map ds its as hxs h4
  have hsl := sizeLine_eq
  obtain ⟨hjd, _⟩ := List.getElem?_eq_some_iff.mp hz
  have hj : j < its.toArray.size := by rw [List.size_toArray]; omega
  have at_ : ∀ (m : Nat) (hm : m < its.toArray.size) (z' : PyData), ds[m]? = some z' → SeqAt.readOf s.heap its.toArray[m] = z' := by
    intro m hm z' hz'
    have hml : m < its.length := by simpa using hm
    rw [← hmap, List.getElem?_map, List.getElem?_eq_getElem hml] at hz'
    have e1 : SeqAt.readOf s.heap its[m] = z' := Option.some.inj (show some (SeqAt.readOf s.heap its[m]) = some z' from hz')
    simpa using e1
  refine call_meets PySem.F.slot_list_index ⟨_, e, rfl⟩ PySem.F.entry_list_index (PySem.F.args_list_index_2 _ _)
    (SeqAt.list_indexAt l its.toArray n none #[] u (fun u => PyData.eqv (SeqAt.readOf s.heap u) d) j hj (by omega) ?_ ?_) ⟨e, SeqAt.items_eqAt (vs := its.toArray) (show ReadsAll s.heap its.toArray.toList ds as from h4) r1 hxs (SeqAt.canLay_of_shaped sd) hroom, ?_⟩
  · show PyData.eqv (SeqAt.readOf s.heap its.toArray[j]) d = true
    rw [at_ j hj zz hz]
    exact hzj
  · intro m hm hmj
    have hmd : m < ds.length := by omega
    have hz' : ds[m]? = some ds[m] := List.getElem?_eq_getElem hmd
    show PyData.eqv (SeqAt.readOf s.heap its.toArray[m]) d = false
    rw [at_ m hm _ hz']
    exact hno m _ hmj hz'
  · exact ⟨.int (j : Int), _, I.tok _, ⟨_, rfl⟩, q⟩
section
variable {X : Cx} {W : WX} {ρ : Rho} {Φ : Ph} {o b : Expr} {r : R} {t : T} {qs : List (Int × Int)} {q : Int × Int} {apos cpos spos : Pos}
/-- xs.index(q), pairs -/
theorem e_indexP (hu : X.A.units + 65 < cLine) (ho : E X ρ o r) (hv : view ρ r = some t) (hd : isDL t (qs.map tp2)) (hb : E X ρ b (.tm (.d (tp2 q)))) (hq : q ∈ qs)
    (hbase : attributeBase o "index" X.env (eval o X.env) = eval o X.env := by rfl)
    (hfew : ((backTo cpos (starEach [b] X.env)).all (fun x => !x.1) && (backToKw cpos (keywordEach [] X.env)).all (fun x => x.1.isSome)
      && decide ([b].length + ([] : List Keyword).length + (if ([] : List Keyword).isEmpty then 0 else 1) < 30)) = true := by rfl)
    (hline : (apos.endLine == cpos.line) = true := by rfl) (hs : starEach [b] X.env = (false, eval b X.env) :: starEach [] X.env := by rfl) (hplain : (backTo cpos (starEach [] X.env)).any (·.1) = false := by rfl) :
    E X ρ (.Call (.Attribute o "index" apos) [b] [] cpos) (.tm (.d (.int (qs.idxOf q : Int)))) := fun c τ σ H s Q k =>
  te_of (pe_bm PySem.F.plainAttrs_list PySem.F.slot_list_index PySem.F.type_list_index (mt_indexD hu) peS (pa_cons peS pa_nil hs) hbase hfew hline hs hplain)
    (ho c τ σ H s _ fun v H1 s1 => by
      obtain ⟨G, f, sb, w, _⟩ := s1.top hv
      obtain ⟨ar, vs, e1, e2, e3⟩ := hd.at sb w
      refine ⟨by rw [e1]; exact .inl ⟨rfl, _, SqL.of e2⟩, hb c _ σ H1 s1 _ fun u H2 s2 => ?_⟩
      obtain ⟨G', f', sb', w', _⟩ := s2.pop.top hv
      obtain ⟨ar', vs', e1', e2', e3'⟩ := hd.at sb' w'
      have dq := s2.see (t := .d (tp2 q)) rfl
      have hall : ∀ d ∈ qs.map tp2, d.ok 1 := fun d hd => by
        obtain ⟨y, _, rfl⟩ := List.mem_map.mp hd
        exact ok_tpI _
      have ix := List.idxOf_lt_length_iff.mpr hq
      refine ⟨ar', vs', u, (tp2 q).py, D.pys (qs.map tp2), qs.idxOf q, (tp2 q).py, e1', rfl, e2', Drs.py _ 1 _ hall (e3'.mono sb'), Dr.py _ 1 _ (ok_tpI _) dq, ?_, D.shaped (ok_tpI _) (by decide), ?_, by rw [tp2_inj]; simp, fun m z' hm hz => ?_, k _ _ s2.pop.pop.int⟩
      · exact D.shaped (n := 2) (d := .lst (qs.map tp2)) hall (by decide)
      · rw [D.pys_map, List.map_map, List.getElem?_map, List.getElem?_eq_getElem ix, List.getElem_idxOf ix]
        rfl
      · rw [D.pys_map, List.map_map, List.getElem?_map] at hz
        obtain ⟨y, hy, rfl⟩ := Option.map_eq_some_iff.mp hz
        show PyData.eqv (tp2 y).py (tp2 q).py = false
        rw [tp2_inj]
        refine decide_eq_false fun e => ?_
        subst e
        exact absurd hy (idx_lt hm))
end
section
variable {X : Cx} {ρ : Rho} {iter : Expr} {pos : Pos}
theorem e_lcN {α : Type} {xs : List α} {enc : α → D} {elt : Expr} {scope : Scope} {nm : Str} {pos' : Pos} {f : α → T} (n : Nat) (hc : X.calm = true) (nd : X.N.Nodup) (hi : EI X (.Name nm pos') ρ iter (xs.map enc)) (hρ : ρ[n]? = some none := by rfl)
    (he : ∀ s H C cl fp x, x ∈ xs → E (blkX X scope s H C cl fp) (ρ.set n (some (.d (enc x)))) elt (.tm (f x)))
    (hz : xs.length ≤ 1000000) (ok : BlkOk X.N X.env.scope scope [(nm, n)] := by exact blkOk_by (by first | decide +kernel | exact Eq.refl true)) (hn : X.N[n]? = some nm := by rfl)
    (hL : ∀ s H C cl fp, Loc (blkX X scope s H C cl fp).env.scope nm ∧ ((blkX X scope s H C cl fp).fn nm = true ∨ (blkX X scope s H C cl fp).env.scope.names.lookup nm = some .local) := by intro _ _ _ _ _; first | exact ⟨Or.inl rfl, Or.inr rfl⟩ | exact ⟨Or.inr rfl, Or.inl rfl⟩)
    (hs : ∀ x, foldedSetIterable iter X.env x = pure x := by intro _; rfl) : E X ρ (.ListComp elt [⟨.Name nm pos', iter, [], 0⟩] scope pos) (.tm (.lst (xs.map f))) := by
  have e : xs.filterMap (fun x => some (f x)) = xs.map f := fm_map
  rw [← e]
  exact fun c τ σ H s Q q => te_of (pe_lc (own := [(nm, n)]) (g := gName n) (tt := fun σ H Q => ∀ s H0 C cl fp, tpS (blkX X scope s H0 C cl fp) [] σ H Q) (te := fun σ H Q => ∀ s H0 C cl fp, teS (blkX X scope s H0 C cl fp) elt σ H Q) hc nd piSS ok
    (fun s H C cl fp => pg_name (X := blkX X scope s H C cl fp) nd hn (hL s H C cl fp).1 (hL s H C cl fp).2) (fun s H C cl fp => ⟨fun pins s0 σ H1 Q I h => h s H C cl fp pins s0 I⟩) (fun s H C cl fp => ⟨fun pins s0 σ H1 Q I h => h s H C cl fp pins s0 I⟩) hs) (lcO_sem (g := fun x => some (f x)) n hi.c hρ (fun s H C cl fp x hx => ⟨true, ts_nil, (fun h => by cases h), fun _ => ⟨_, rfl, he s H C cl fp x hx⟩⟩) hz s q)
end
def oD : Option (Int × Int) → D
  | none => .non
  | some v => tp2 v
theorem ok_oD (a : Option (Int × Int)) : (oD a).ok 1 := by
  cases a with
  | none => trivial
  | some v => exact ok_tpI _
theorem eqv_oD (a b : Option (Int × Int)) : PyData.eqv (oD a).py (oD b).py = decide (a = b) := by
  cases a with
  | none =>
    cases b with
    | none => rfl
    | some v => rfl
  | some u =>
    cases b with
    | none => rfl
    | some v =>
      show PyData.eqv (tp2 u).py (tp2 v).py = _
      rw [tp2_inj]
      simp
def vkey (v : Int × Int) : List Key := [.inl v.1, .inl v.2]
theorem vkey_inj {a b : Int × Int} (h : vkey a = vkey b) : a = b := by
  unfold vkey at h
  simp at h
  exact Prod.ext h.1 h.2
theorem isKey_tp2 (v : Int × Int) : isKey (.d (tp2 v)) (vkey v) := .inl rfl
theorem isKey_tup (v : Int × Int) : isKey (.tup [.d (.int v.1), .d (.int v.2)]) (vkey v) := .inr rfl
end DL
namespace DL
open PySem PySem.Spec PyProof.Rows L2
section
variable (X : Cx)
def ER (ρ : Rho) (e : Expr) (P : T → Prop) : Prop := ∀ c τ σ H, St X.K c ρ τ σ H → ∀ Q : VK, (∀ t, P t → ∀ v H', St X.K c ρ ((v, .tm t) :: τ) σ H' → Q v H') → teS X e σ H Q
def EAr (ρ : Rho) (es : List Expr) (P : List T → Prop) : Prop := ∀ c τ σ H, St X.K c ρ τ σ H → ∀ Q : List V → Hp → Prop, (∀ ts, P ts → ∀ vs H', StA X.K c ρ vs ts τ σ H' → Q vs H') → taS X es σ H Q
end
section
variable {X : Cx} {W : WX} {ρ : Rho} {Φ : Ph} {e : Expr} {es : List Expr} {P P2 : T → Prop} {PA : List T → Prop} {t : T} {nm : Str} {k j : Nat} {S : Spec} {pos p : Pos}
theorem er_of (h : E X ρ e (.tm t)) : ER X ρ e fun u => u = t := fun c τ σ H s Q q => h c τ σ H s Q (q t rfl)
theorem er_mono (h : ER X ρ e P) (m : ∀ t, P t → P2 t) : ER X ρ e P2 := fun c τ σ H s Q q => h c τ σ H s Q fun t ht => q t (m t ht)
theorem er_fz (h : ER X ρ e P) : ER X ρ e fun u => ∃ t, P t ∧ u = .d t.toD := fun c τ σ H s Q q => h c τ σ H s Q fun t ht v H' s' => q _ ⟨t, ht, rfl⟩ v H' s'.fz
theorem ear_of {ts : List T} (h : EA X ρ es ts) : EAr X ρ es fun us => us = ts := fun c τ σ H s Q q => h c τ σ H s Q (q ts rfl)
theorem ear_nil : EAr X ρ [] fun us => us = [] := ear_of ea_nil
theorem ear_cons (h : ER X ρ e P) (h2 : EAr X ρ es PA) (hs : starEach (e :: es) X.env = (false, eval e X.env) :: starEach es X.env := by rfl) : EAr X ρ (e :: es) fun us => ∃ t ts, us = t :: ts ∧ P t ∧ PA ts := fun c τ σ H s Q q =>
  ta_of (pa_cons peS paS hs) (h c τ σ H s _ fun t ht v H1 s1 => h2 c _ σ H1 s1 _ fun ts hts vs H2 s2 => q (t :: ts) ⟨t, ts, rfl, ht, hts⟩ (v :: vs) H2 s2.cons)
theorem er_tup {x1} (h : EAr X ρ es PA) (hl : es.length ≤ sizeLine := by first | decide | exact Nat.le_of_ble_eq_true rfl) (hn : ∀ ts, PA ts → ts.length = es.length) : ER X ρ (.Tuple es x1 pos) fun u => ∃ ts, PA ts ∧ u = .tup ts := fun c τ σ H s Q q => te_of (pe_tup paS) (h c τ σ H s _ fun ts hts vs H1 s1 =>
  ⟨by rw [s1.len, hn ts hts]; exact hl, fun p hp => q _ ⟨ts, hts, rfl⟩ _ _ (s1.new hp fun G fa _ w => ⟨fa, .refl _, .tup upd_same w⟩)⟩)
theorem er_call (F : Kn X.prog X.w X.K X.mg X.base nm k S) (hr : Room k X.A) (ha : EAr X ρ (e :: es) PA) (hx : ∀ ts, PA ts → ∃ x, ts = (S.enc x).map T.d ∧ S.pre x ∧ (∀ t, S.post x t → P t) ∧ ∀ cls, ¬ S.exc x cls) (hg : Gl X nm := by rfl) (hdb : (nm == ("__debug__" : Str)) = false := by decide)
    (he : starEach (e :: es) X.env = (false, eval e X.env) :: starEach es X.env := by rfl) (hpl : (backTo pos (starEach es X.env)).any (·.1) = false := by rfl) : ER X ρ (.Call (.Name nm p) (e :: es) [] pos) P := fun c τ σ H s Q hQ => by
  obtain ⟨f, fd, ps, F, hm, hk, hb⟩ := F
  refine te_of (pe_callS (E := WE fun _ _ _ _ => False) F hr hg hm hk hb (fun σ => passAt takes0 σ) paS hdb he hpl) (ha c τ σ H s _ fun ts hts vs H1 s1 => ?_)
  obtain ⟨x, hts, hpre, hp, hx⟩ := hx ts hts
  obtain ⟨G, fs, fa, ft, C, L, A, M⟩ := s1
  obtain ⟨dr, fa0⟩ := Owns.ds hts A
  subst fa0
  refine ⟨G, x, C.sub, dr, hpre, fun t ht v H' G' fp af w nd fr => hQ t (hp t ht) v H' ?_, fun cls hc H' sm => (hx cls hc).elim⟩
  exact St.after (by simpa using C) L M af w nd fr
theorem s_retR (he : ER X ρ e P) (h : ∀ t, P t → Φ.rt t ρ) : S1 X W ρ (.Return (some e) pos) Φ := fun c τ σ H tm s D P => ts_of (ps_ret peS) (he c τ σ H s _ fun t ht v H1 s1 => P.rt _ _ _ _ _ (h t ht) s1)
theorem s_setR (n : Nat) {nm : Str} {pos' : Pos} (he : ER X ρ e P) (h : ∀ t, P t → Φ.nx (ρ.set n (some t))) (hρ : Nat.ble (n + 1) ρ.length = true := by rfl) (hi : X.N[n]? = some nm := by rfl) (hN : X.N.Nodup := by assumption) (hx : Loc X.env.scope nm := by first | exact Or.inl rfl | exact Or.inr rfl)
    (hs : swapsWith e (some (.Name nm pos')) pos.line X.env = pure false := by rfl) (hf : X.fn nm = true ∨ X.env.scope.names.lookup nm = some .local := by first | exact .inl rfl | exact .inr rfl | assumption) :
    S1 X W ρ (.Assign [.Name nm pos'] e pos) Φ := fun c τ σ H tm s D P =>
  ts_of (ps_set hN hi hx peS hs hf) (he c τ σ H s _ fun t ht v H1 s1 => P.nx _ _ _ (h t ht) (s1.store (Nat.le_of_ble_eq_true hρ) tm))
end
end DL
namespace DL
open PySem PySem.Spec PyProof.Rows L2
section
variable {X : Cx} {ρ : Rho} {a : Expr} {i z : Bool} {q : Nat} {p2 : Pos}
theorem c_isBl {q p2} (ha : E X ρ a (.tm (.d (.bl i)))) : CJ X ρ .Is a (.Constant (.bool z) q p2) (decide (i = z)) := cj_op op_isBl ha e_bl fun c τ σ H v u s Q k => by
  obtain rfl := s.vbl
  obtain rfl := s.pop.vbl
  exact ⟨i, z, rfl, rfl, k _ s.pop.pop⟩
theorem c_notBl {q p2} (ha : E X ρ a (.tm (.d (.bl i)))) : CJ X ρ .IsNot a (.Constant (.bool z) q p2) (!decide (i = z)) := cj_op op_notBl ha e_bl fun c τ σ H v u s Q k => by
  obtain rfl := s.vbl
  obtain rfl := s.pop.vbl
  exact ⟨i, z, rfl, rfl, k _ s.pop.pop⟩
end
theorem cut_lo {r : List Int} {a : Nat} (h : a ≤ r.length) : cutD (r.map D.int) none (some (a : Int)) = (r.take a).map D.int := by
  unfold cutD HT.sIx
  simp only [List.length_map, List.drop_zero]
  rw [if_neg (by omega), show min (a : Int).toNat r.length - 0 = a from by omega, List.map_take]
theorem cut_hi {r : List Int} {a : Nat} (h : a ≤ r.length) : cutD (r.map D.int) (some (a : Int)) none = (r.drop a).map D.int := by
  unfold cutD HT.sIx
  simp only [List.length_map]
  rw [if_neg (by omega), show min (a : Int).toNat r.length = a from by omega, ← List.map_drop, List.take_of_length_le (by simp)]
theorem e_fzI {X : Cx} {ρ : Rho} {e : Expr} {r : List Int} (h : E X ρ e (.tm (.lst ((r.map D.int).map T.d)))) : E X ρ e (.tm (.d (.lst (r.map D.int)))) := e_fzL h
end DL
namespace DL
open PySem PySem.Spec PyProof.Rows L2
section
variable {K : PySem.W.Frag} {c : Cst} {ρ : Rho} {σ : L2.St} {H : Hp} {τ : List (V × R)} {v : V} {n : Nat}
theorem St.plAt (s : St K c ρ ((v, .pl n []) :: τ) σ H) : σ[n]? = some (some v) := by
  obtain ⟨G, fs, ft, C, L, M⟩ := s
  cases M with
  | @pl _ _ i p u t0 s0 f a1 a2 a3 a4 h2 =>
  have e : u = v := by simpa [atV] using a4
  rw [← e]
  exact a1
end
section
variable {X : Cx} {W : WX} {ρ : Rho} {Φ : Ph} {o1 o2 b : Expr} {xs : List T} {ds : List D} {d : D} {apos cpos apos2 cpos2 spos : Pos} {i : Int}
theorem s_appPop (r l : Nat) (ho1 : E X ρ o1 (.pl r [])) (ho2 : E X ρ o2 (.pl l [])) (hi : E X ρ b (.tm (.d (.int i)))) (er : ρ[r]? = some (some (.lst xs))) (el : ρ[l]? = some (some (.lst (ds.map T.d)))) (hrl : l ≠ r) (h0 : 0 ≤ i) (hlt : i < ds.length) (hz : ds.length ≤ 1000000) (gd : ds[i.toNat]? = some d) (hl : xs.length < sizeLine)
    (h : Φ.nx ((ρ.set l (some (.lst ((ds.eraseIdx i.toNat).map T.d)))).set r (some (.lst (xs ++ [.d d])))))
    (hbase : attributeBase o1 "append" X.env (eval o1 X.env) = eval o1 X.env := by rfl)
    (hfew : ((backTo cpos (starEach [.Call (.Attribute o2 "pop" apos2) [b] [] cpos2] X.env)).all (fun x => !x.1) && (backToKw cpos (keywordEach [] X.env)).all (fun x => x.1.isSome)
      && decide ([Expr.Call (.Attribute o2 "pop" apos2) [b] [] cpos2].length + ([] : List Keyword).length + (if ([] : List Keyword).isEmpty then 0 else 1) < 30)) = true := by rfl)
    (hline : (apos.endLine == cpos.line) = true := by rfl) (hs : starEach [.Call (.Attribute o2 "pop" apos2) [b] [] cpos2] X.env = (false, eval (.Call (.Attribute o2 "pop" apos2) [b] [] cpos2) X.env) :: starEach [] X.env := by rfl) (hplain : (backTo cpos (starEach [] X.env)).any (·.1) = false := by rfl)
    (hbase2 : attributeBase o2 "pop" X.env (eval o2 X.env) = eval o2 X.env := by rfl)
    (hfew2 : ((backTo cpos2 (starEach [b] X.env)).all (fun x => !x.1) && (backToKw cpos2 (keywordEach [] X.env)).all (fun x => x.1.isSome)
      && decide ([b].length + ([] : List Keyword).length + (if ([] : List Keyword).isEmpty then 0 else 1) < 30)) = true := by rfl)
    (hline2 : (apos2.endLine == cpos2.line) = true := by rfl) (hs2 : starEach [b] X.env = (false, eval b X.env) :: starEach [] X.env := by rfl) (hplain2 : (backTo cpos2 (starEach [] X.env)).any (·.1) = false := by rfl)
    (hsw : swapsWith (.Call (.Attribute o1 "append" apos) [.Call (.Attribute o2 "pop" apos2) [b] [] cpos2] [] cpos) none spos.line X.env = pure false := by rfl) :
    S1 X W ρ (.Expr (.Call (.Attribute o1 "append" apos) [.Call (.Attribute o2 "pop" apos2) [b] [] cpos2] [] cpos) spos) Φ := fun c τ σ H tm s Dn P =>
  ts_of (ps_expr (pe_bm PySem.F.plainAttrs_list PySem.F.slot_list_append PySem.F.type_list_append mt_append peS (pa_cons (pe_bm PySem.F.plainAttrs_list PySem.F.slot_list_pop PySem.F.type_list_pop mt_popAt peS (pa_cons peS pa_nil hs2) hbase2 hfew2 hline2 hs2 hplain2) pa_nil hs) hbase hfew hline hs hplain) hsw)
    (ho1 c τ σ H s _ fun v H1 s1 => by
      have hv1 : view ρ (.pl r []) = some (.lst xs) := view_pl er rfl
      have hv2 : view ρ (.pl l []) = some (.lst (ds.map T.d)) := view_pl el rfl
      obtain ⟨G, f, sb, w, _⟩ := s1.top hv1
      obtain ⟨ar, vs, g, e1, _, e2, e3⟩ := w.is_lst
      have sr := s1.plAt
      refine ⟨by rw [e1]; exact .inl ⟨rfl, _, SqL.of e2⟩, ho2 c _ σ H1 s1 _ fun v2 H2 s2 => ?_⟩
      obtain ⟨G2, f2, sb2, w2, _⟩ := s2.top hv2
      obtain ⟨al, vl, gl, e1l, _, e2l, e3l⟩ := w2.is_lst
      have sl := s2.plAt
      refine ⟨by rw [e1l]; exact .inl ⟨rfl, _, SqL.of e2l⟩, hi c _ σ H2 s2 _ fun u H3 s3 => ?_⟩
      obtain rfl := s3.vint
      obtain ⟨G', f', sb', w', _⟩ := s3.pop.top hv2
      obtain ⟨al', vl', gl', e1', _, e2', e3'⟩ := w'.is_lst
      have hlen : vl'.length = ds.length := by rw [e3'.len, List.length_map]
      have hk : i.toNat < vl'.length := by omega
      have hz' : vl'[i.toNat]? = some vl'[i.toNat] := List.getElem?_eq_getElem hk
      refine ⟨al', vl', i, i.toNat, _, e1', rfl, e2', by omega, by omega, StrLaws.seqIndex_nonneg h0 (by omega), hz', ?_⟩
      have s3' := s3.pop
      rw [e1'] at s3' sl
      have s4 := (s3'.newItem hv2 (.inr rfl) gd e2' hz').perm (τ' := (v, .pl r []) :: (vl'[i.toNat], .tm (.d d)) :: τ) (List.Perm.swap _ _ _)
      obtain ⟨v', q1, s5⟩ := s4.pop.place el
      rw [sl] at q1
      have q1 : v' = .ref al' := (Option.some.inj (Option.some.inj q1)).symm
      subst q1
      have s6 := s5.mut1 (ys := (ds.eraseIdx i.toNat).map T.d) (vs' := vl'.eraseIdx i.toNat) tm.cons el rfl e2' fun G g q => by
        obtain ⟨g2, sub, w2⟩ := Owns.erase i.toNat q
        refine ⟨g2, g2, .refl _, sub, ?_⟩
        have me : ∀ {α β : Type} {f : α → β} {l : List α} {i : Nat}, (l.map f).eraseIdx i = (l.eraseIdx i).map f := by
          intro α β f l
          induction l with
          | nil => intro i; simp
          | cons a l ih => intro i; cases i <;> simp [ih]
        rw [← me]
        exact w2
      have er' : (ρ.set l (some (T.put [] (.lst (ds.map T.d)) (.lst ((ds.eraseIdx i.toNat).map T.d)))))[r]? = some (some (.lst xs)) := by
        rw [List.getElem?_set_ne hrl]
        exact er
      obtain ⟨v'', q2, s7⟩ := s6.place er'
      rw [sr] at q2
      have q2 : v'' = v := (Option.some.inj (Option.some.inj q2)).symm
      subst q2
      have s8 := s7.perm (τ' := (vl'[i.toNat], .tm (.d d)) :: (v'', .pl r []) :: τ) (List.Perm.swap _ _ _)
      have hv1' : view (ρ.set l (some (T.put [] (.lst (ds.map T.d)) (.lst ((ds.eraseIdx i.toNat).map T.d))))) (.pl r []) = some (.lst xs) := view_pl er' rfl
      obtain ⟨G8, f8, sb8, w8, _⟩ := s7.top hv1'
      obtain ⟨ar8, vs8, g8, e18, _, e28, e38⟩ := w8.is_lst
      refine ⟨ar8, vs8, vl'[i.toNat], e18, rfl, e28, by rw [e38.len]; exact hl, P.nx _ _ _ h ?_⟩
      refine (StA.one s8).mut tm er' rfl fun G g fa sb w A nd _ => ?_
      obtain ⟨a3, v3, g3, q1, q2, q3, q4⟩ := w.is_lst
      rw [e18] at q1
      cases q1
      rw [e28] at q3
      cases q3
      subst q2
      have na : ar8 ∉ g3 ++ fa := (List.nodup_cons.mp nd).1
      refine ⟨ar8 :: (g3 ++ fa), ar8 :: (g3 ++ fa), List.mem_cons_self, .refl _, .refl _, ?_⟩
      rw [e18]
      exact .lst upd_same ((q4.append A).keep (Same.refl _) _ _ _ (On.upd na)))
end
end DL
namespace DL
open PySem PySem.Spec PyProof.Rows L2
section
variable {X : Cx} {W : WX} {ρ : Rho} {Φ : Ph} {e iter : Expr} {pos p tpos : Pos} {elts : List Expr} {kk : Nat}
theorem i_enum {β : Type} {bs : List β} {enc : β → D} (b0 : β) (he : E X ρ e (.tm (.d (.lst (bs.map enc))))) (hm : X.mg "enumerate" = none) (hg : Gl X "enumerate" := by rfl) (hs : starEach [e] X.env = [(false, eval e X.env)] := by rfl) (hs2 : starEach [e] X.env = (false, eval e X.env) :: starEach [] X.env := by rfl) :
    EI X (.Tuple elts kk tpos) ρ (.Call (.Name "enumerate" p) [e] [] pos) ((List.range bs.length).map fun i : Nat => D.tup [.int (i : Int), enc (bs.getD i b0)]) := fun c τ σ H s R q => pi_of (pi_enum hg hm (pa_cons peS pa_nil hs2) hs) (he c τ σ H s _ fun v H1 s1 => by
  obtain ⟨a, vs, e1, e2, e3⟩ := (s1.see (t := .d (.lst (bs.map enc))) rfl).is_lst
  subst e1
  refine ⟨a, vs, rfl, SqL.of e2, q _ _ [(.ref a, .tm (.d (.lst (bs.map enc))))] (TmOnly.nil.cons) (fun c ρ τ σ H s => ⟨fun i x hx => ?_, ?_⟩) s1⟩
  · have hi : i < bs.length := by
      have := (List.getElem?_eq_some_iff.mp hx).1
      simpa using this
    have hxe : x = D.tup [.int (i : Int), enc (bs.getD i b0)] := by
      rw [List.getElem?_map, List.getElem?_range hi] at hx
      exact (Option.some.inj hx).symm
    subst hxe
    have hb : (bs.map enc)[i]? = some (enc (bs.getD i b0)) := by
      rw [List.getElem?_map, List.getD_eq_getElem?_getD, List.getElem?_eq_getElem hi]
      rfl
    obtain ⟨a', vs', f1, f2, f3⟩ := (s.see (t := .d (.lst (bs.map enc))) rfl).is_lst
    cases f1
    obtain ⟨u0, g1, _⟩ := f3.get hb
    refine ⟨⟨vs', u0, SqL.of f2, g1⟩, fun v' H' ⟨T0, x0, ev, hT, eH, y⟩ => ?_⟩
    have y1 := y vs' (SqL.of f2)
    rw [g1] at y1
    cases y1
    subst ev eH
    have s2 := (s.item hb f2 g1).int (i := (i : Int))
    have s3 := s2.perm (List.Perm.swap _ _ _)
    have s4 := ((StA.one s3).cons).new (o := .tup [.int (i : Int), u0]) (t := .tup [.d (.int (i : Int)), .d (enc (bs.getD i b0))]) hT fun G fa _ w => ⟨fa, .refl _, .tup upd_same w⟩
    exact s4.fz
  · obtain ⟨a', vs', f1, f2, f3⟩ := (s.see (t := .d (.lst (bs.map enc))) rfl).is_lst
    cases f1
    exact ⟨vs', SqL.of f2, by rw [f3.len, List.length_map, List.length_map, List.length_range]; exact Nat.le_refl _⟩)
theorem wipe_two {σ : L2.St} {n m : Nat} : wipe σ [n, m] = (σ.set m none).set n none := rfl
/-- the same with two targets -/
theorem lc2_sem {α : Type} {xs : List α} {e1 e2 : α → D} {tg elt : Expr} {scope : Scope} {f : α → T} (n1 n2 : Nat) (hn : n1 ≠ n2) (hi : EIc X tg ρ iter (xs.map fun x => D.tup [e1 x, e2 x])) (hρ1 : ρ[n1]? = some none) (hρ2 : ρ[n2]? = some none)
    (he : ∀ s H C cl fp x, x ∈ xs → E (blkX X scope s H C cl fp) ((ρ.set n1 (some (.d (e1 x)))).set n2 (some (.d (e2 x)))) elt (.tm (f x)))
    (hz : xs.length ≤ 1000000) {c : Cst} {τ : List (V × R)} {σ : L2.St} {H : Hp} (s : St X.K c ρ τ σ H) {Q : VK} (q : ∀ v H', St X.K c ρ ((v, .tm (.lst (xs.map f))) :: τ) σ H' → Q v H') :
    tLc (piS X tg iter) (gTup X.K 2 (gCons (gName n1) (gCons (gName n2) gNil))) (fun σ H Q => ∀ s H0 C cl fp, tpS (blkX X scope s H0 C cl fp) [] σ H Q) (fun σ H Q => ∀ s H0 C cl fp, teS (blkX X scope s H0 C cl fp) elt σ H Q) [n1, n2] σ H Q := by
  refine hi c τ σ H s _ fun J H1 tmp wk s1 D0 hD => ?_
  have s2 : St X.K c ρ (tmp ++ (.ref D0, .tm (.lst [])) :: τ) σ (upd H1 D0 (.lst [])) := (s1.new hD fun G _ => .lst upd_same .nil).perm List.perm_middle.symm
  refine ⟨fun i m H => m = xs.length - i ∧ i ≤ xs.length ∧ St X.K c ρ (tmp ++ (.ref D0, .tm (.lst ((xs.take i).map f))) :: τ) σ H, ⟨_, rfl, Nat.zero_le _, by simpa using s2⟩, ?_⟩
  rintro i m H3 ⟨rfl, hi, s3⟩
  by_cases hlt : i < xs.length
  · obtain ⟨go, yl⟩ := (wk c _ σ H3 s3).1 i (D.tup [e1 xs[i], e2 xs[i]]) (by rw [List.getElem?_map, List.getElem?_eq_getElem hlt]; rfl)
    refine .inr ⟨go, fun H' => St X.K c ρ (tmp ++ (.ref D0, .tm (.lst ((xs.take (i + 1)).map f))) :: τ) σ H', fun H' s' => ⟨xs.length - (i + 1), by omega, rfl, hlt, s'⟩, fun v H4 y => ?_⟩
    have tk : (xs.take (i + 1)).map f = (xs.take i).map f ++ [f xs[i]] := by
      rw [List.take_succ_eq_append_getElem hlt, List.map_append]
      rfl
    have sv := yl v H4 y
    obtain ⟨a, vs, ev, ea, ed⟩ := (sv.see (t := .d (D.tup [e1 xs[i], e2 xs[i]])) rfl).is_tup
    obtain ⟨v1, v2, evs, d1, d2⟩ : ∃ v1 v2, vs = [v1, v2] ∧ Dr X.K H4 v1 (e1 xs[i]) ∧ Dr X.K H4 v2 (e2 xs[i]) := by
      cases ed with | cons h1 h2 =>
      cases h2 with | cons h3 h4 =>
      cases h4
      exact ⟨_, _, rfl, h1, h3⟩
    subst ev evs
    have item : ∀ {c : Cst} {ρ : Rho} {τ : List (V × R)} {σ : L2.St} (k : Nat) (u : V) (d : D), [v1, v2][k]? = some u → [e1 xs[i], e2 xs[i]][k]? = some d → St X.K c ρ ((.ref a, .tm (.d (D.tup [e1 xs[i], e2 xs[i]]))) :: τ) σ H4 → St X.K c ρ ((u, .tm (.d d)) :: τ) σ H4 := fun k u d h1 h2 s => by
      obtain ⟨u', hu, s'⟩ := s.derive (P := fun u' => u' = u) (y := d) fun G sb h => by
        obtain ⟨a2, vs2, k1, k2, k3⟩ := h.is_tup
        cases k1
        have := sb _ _ k2
        rw [ea] at this
        cases this
        obtain ⟨u', g2, g3⟩ := k3.get h2
        rw [h1] at g2
        cases g2
        exact ⟨_, rfl, g3⟩
      subst hu
      exact s'
    have l1 : n1 < σ.length := by
      have := (List.getElem?_eq_some_iff.mp hρ1).1
      rw [s.len] at this; exact this
    have l2 : n2 < σ.length := by
      have := (List.getElem?_eq_some_iff.mp hρ2).1
      rw [s.len] at this; exact this
    have hρ2' : ∀ t, (ρ.set n1 (some t))[n2]? = some none := fun t => by rw [List.getElem?_set_ne hn]; exact hρ2
    have w0 := (sv.any (n := n2) (x := none) hρ2).any (n := n1) (x := none) hρ1
    rw [← wipe_two] at w0
    have w1 := (item 0 v1 (e1 xs[i]) rfl rfl w0.dup).storeP hρ1
    have w2 := (item 1 v2 (e2 xs[i]) rfl rfl w1).storeP (hρ2' _)
    have hwp : wipe (((wipe σ [n1, n2]).set n1 (some v1)).set n2 (some v2)) [n1, n2] = wipe σ [n1, n2] := by
      rw [wipe_two, wipe_two]
      refine List.ext_getElem (by simp) fun j h1 h2 => ?_
      simp only [List.getElem_set]
      by_cases z2 : n2 = j
      · simp [z2]
      · by_cases z1 : n1 = j
        · simp [z1, z2]
        · simp [z1, z2]
    have ret : ∀ H, St X.K c ((ρ.set n1 (some (.d (e1 xs[i])))).set n2 (some (.d (e2 xs[i])))) (tmp ++ (.ref D0, .tm (.lst ((xs.take (i + 1)).map f))) :: τ) (((wipe σ [n1, n2]).set n1 (some v1)).set n2 (some v2)) H → St X.K c ρ (tmp ++ (.ref D0, .tm (.lst ((xs.take (i + 1)).map f))) :: τ) σ H := fun H s5 => by
      have hz : ∀ n : Nat, ρ[n]? = some none → ∀ q ∈ (tmp ++ (.ref D0, .tm (.lst ((xs.take (i + 1)).map f))) :: τ : List (V × R)), ∀ p, q.2 ≠ .pl n p := fun n hn q hq => by
        rcases List.mem_append.mp hq with h1 | h1
        · exact s3.noPl hn q (List.mem_append_left _ h1)
        · rcases List.mem_cons.mp h1 with h1 | h1
          · subst h1; exact fun p e => nomatch e
          · exact s3.noPl hn q (List.mem_append_right _ (List.mem_cons_of_mem _ h1))
      have s6 := (s5.back (x := σ[n2]) (hρ2' _) (hz n2 hρ2)).back (x := σ[n1]) hρ1 (hz n1 hρ1)
      have e : ((((wipe σ [n1, n2]).set n1 (some v1)).set n2 (some v2)).set n2 σ[n2]).set n1 σ[n1] = σ := by
        rw [wipe_two]
        refine List.ext_getElem (by simp) fun j h1 h2 => ?_
        simp only [List.getElem_set]
        by_cases z1 : n1 = j
        · subst z1; simp
        · by_cases z2 : n2 = j
          · subst z2; simp [z1]
          · simp [z1, z2]
      rw [e] at s6
      exact s6
    have hx : xs[i] ∈ xs := List.getElem_mem hlt
    refine ⟨a, [v1, v2], rfl, SqT.of ea, rfl, v1, [v2], rfl, v2, [], rfl, rfl, hwp, fun s H0 C cl fp => ?_⟩
    refine ts_nil (X := blkX X scope s H0 C cl fp) c _ _ H4 w2 _ fun H5 s5 => ?_
    rw [if_pos rfl]
    intro s' H0' C' cl' fp'
    refine he s' H0' C' cl' fp' _ hx c _ _ H5 s5 _ fun y H6 s6 => ?_
    have s7 := s6.perm (τ' := (y, .tm (f xs[i])) :: (.ref D0, .tm (.lst ((xs.take i).map f))) :: (tmp ++ τ)) (List.Perm.cons _ List.perm_middle)
    obtain ⟨acc, a1, a2, s8⟩ := s7.grow
    refine ⟨acc, a1, ?_, ret _ ?_⟩
    · have h2 : (xs.take i).length ≤ xs.length := by rw [List.length_take]; omega
      have h3 := sizeLine_eq
      rw [List.length_map] at a2
      omega
    · rw [tk]
      exact s8.perm List.perm_middle.symm
  · have e : i = xs.length := by omega
    subst e
    have z := (wk c _ σ H3 s3).2
    rw [List.length_map] at z
    refine .inl ⟨z, q _ _ ?_⟩
    rw [List.take_length] at s3
    exact s3.dropN
/-- y = [elt for a, b in iter] on one line -/
theorem s_lc2 {α : Type} {xs : List α} {e1 e2 : α → D} {elt : Expr} {scope : Scope} {k : Nat} {m1 m2 y : Str} {q1 q2 py spos : Pos} {f : α → T} (m n1 n2 : Nat) (hn : n1 ≠ n2) (Y : Bx X W k) (hi : EI X (.Tuple [.Name m1 q1, .Name m2 q2] kk tpos) ρ iter (xs.map fun x => D.tup [e1 x, e2 x])) (hρ1 : ρ[n1]? = some none) (hρ2 : ρ[n2]? = some none)
    (he : ∀ s H C cl fp x, x ∈ xs → E (blkX X scope s H C cl fp) ((ρ.set n1 (some (.d (e1 x)))).set n2 (some (.d (e2 x)))) elt (.tm (f x)))
    (h : Φ.nx (ρ.set m (some (.lst (xs.map f)))))
    (hz : xs.length ≤ 1000000) (ok : BlkOk X.N X.env.scope scope [(m1, n1), (m2, n2)] := by exact blkOk_by (by first | decide +kernel | exact Eq.refl true)) (hn1 : X.N[n1]? = some m1 := by rfl) (hn2 : X.N[n2]? = some m2 := by rfl)
    (hL1 : ∀ s H C cl fp, Loc (blkX X scope s H C cl fp).env.scope m1 ∧ ((blkX X scope s H C cl fp).fn m1 = true ∨ (blkX X scope s H C cl fp).env.scope.names.lookup m1 = some .local) := by intro _ _ _ _ _; first | exact ⟨Or.inl rfl, Or.inr rfl⟩ | exact ⟨Or.inr rfl, Or.inl rfl⟩)
    (hL2 : ∀ s H C cl fp, Loc (blkX X scope s H C cl fp).env.scope m2 ∧ ((blkX X scope s H C cl fp).fn m2 = true ∨ (blkX X scope s H C cl fp).env.scope.names.lookup m2 = some .local) := by intro _ _ _ _ _; first | exact ⟨Or.inl rfl, Or.inr rfl⟩ | exact ⟨Or.inr rfl, Or.inl rfl⟩)
    (hs : ∀ x, foldedSetIterable iter X.env x = pure x := by intro _; rfl)
    (hT : ∀ s H C cl fp, PG (blkX X scope s H C cl fp) (.Tuple [.Name m1 q1, .Name m2 q2] kk tpos) (gTup X.K 2 (gCons (gName n1) (gCons (gName n2) gNil))))
    (hm : Nat.ble (m + 1) ρ.length = true := by rfl) (hy : X.N[m]? = some y := by rfl) (hyl : X.env.scope.names.lookup y = some .local := by rfl) (hk : X.env.scope.kind = .function := by rfl) (hl : (py.line == pos.line) = true := by rfl) (ha : (scope.names.any fun (n, k) => n == y && (k == .local || k == .cell)) = false := by rfl) :
    S1 X W ρ (.Assign [.Name y py] (.ListComp elt [⟨.Tuple [.Name m1 q1, .Name m2 q2] kk tpos, iter, [], 0⟩] scope pos) spos) Φ := fun c τ σ H tm s Dn P =>
  ts_of (ps_setLc (own := [(m1, n1), (m2, n2)]) (g := gTup X.K 2 (gCons (gName n1) (gCons (gName n2) gNil))) (tt := fun σ H Q => ∀ s H0 C cl fp, tpS (blkX X scope s H0 C cl fp) [] σ H Q) (te := fun σ H Q => ∀ s H0 C cl fp, teS (blkX X scope s H0 C cl fp) elt σ H Q) Y.calm Y.nd hy hyl (sw_true hk hyl hl ha) piSS ok
    hT (fun s H C cl fp => ⟨fun pins s0 σ H1 Q I h => h s H C cl fp pins s0 I⟩) (fun s H C cl fp => ⟨fun pins s0 σ H1 Q I h => h s H C cl fp pins s0 I⟩) hs)
    (lc2_sem (Q := fun x H1 => gName m x σ H1 Dn.nx) n1 n2 hn hi.c hρ1 hρ2 he hz s fun v H' s' => P.nx _ _ _ h (s'.store (Nat.le_of_ble_eq_true hm) tm))
theorem e_lc2 {α : Type} {xs : List α} {e1 e2 : α → D} {elt : Expr} {scope : Scope} {m1 m2 : Str} {q1 q2 : Pos} {f : α → T} (n1 n2 : Nat) (hn : n1 ≠ n2) (hc : X.calm = true) (nd : X.N.Nodup) (hi : EI X (.Tuple [.Name m1 q1, .Name m2 q2] kk tpos) ρ iter (xs.map fun x => D.tup [e1 x, e2 x])) (hρ1 : ρ[n1]? = some none) (hρ2 : ρ[n2]? = some none)
    (he : ∀ s H C cl fp x, x ∈ xs → E (blkX X scope s H C cl fp) ((ρ.set n1 (some (.d (e1 x)))).set n2 (some (.d (e2 x)))) elt (.tm (f x)))
    (hz : xs.length ≤ 1000000) (hT : ∀ s H C cl fp, PG (blkX X scope s H C cl fp) (.Tuple [.Name m1 q1, .Name m2 q2] kk tpos) (gTup X.K 2 (gCons (gName n1) (gCons (gName n2) gNil))))
    (ok : BlkOk X.N X.env.scope scope [(m1, n1), (m2, n2)] := by exact blkOk_by (by first | decide +kernel | exact Eq.refl true))
    (hs : ∀ x, foldedSetIterable iter X.env x = pure x := by intro _; rfl) :
    E X ρ (.ListComp elt [⟨.Tuple [.Name m1 q1, .Name m2 q2] kk tpos, iter, [], 0⟩] scope pos) (.tm (.lst (xs.map f))) := fun c τ σ H s Q q =>
  te_of (pe_lc (own := [(m1, n1), (m2, n2)]) (g := gTup X.K 2 (gCons (gName n1) (gCons (gName n2) gNil))) (tt := fun σ H Q => ∀ s H0 C cl fp, tpS (blkX X scope s H0 C cl fp) [] σ H Q) (te := fun σ H Q => ∀ s H0 C cl fp, teS (blkX X scope s H0 C cl fp) elt σ H Q) hc nd piSS ok
    hT (fun s H C cl fp => ⟨fun pins s0 σ H1 Q I h => h s H C cl fp pins s0 I⟩) (fun s H C cl fp => ⟨fun pins s0 σ H1 Q I h => h s H C cl fp pins s0 I⟩) hs)
    (lc2_sem n1 n2 hn hi.c hρ1 hρ2 he hz s q)
end
end DL
namespace DL
open PySem PySem.Spec PyProof.Rows L2
section
variable {K : PySem.W.Frag} {c : Cst} {ρ : Rho} {σ : L2.St} {G H : Hp} {v u : V} {t : T} {n r : Nat}
theorem Temps.unset : ∀ {τ : List (V × R)} {f : List Addr}, Temps K G H ρ σ τ f → (∀ q ∈ τ, ∀ p, q.2 ≠ .pl r p) → Temps K G H (ρ.set r none) σ τ f
  | _, _, .nil, _ => .nil
  | _, _, .tm h1 h2, z => .tm h1 (Temps.unset h2 fun q hq => z q (List.mem_cons_of_mem _ hq))
  | _, _, .pl (i := i) (p := p) a1 a2 a3 a4 h2, z => by
      have : r ≠ i := fun e => z _ List.mem_cons_self p (by rw [e])
      exact .pl a1 (by rw [List.getElem?_set_ne this]; exact a2) a3 a4 (Temps.unset h2 fun q hq => z q (List.mem_cons_of_mem _ hq))
theorem St.take {τ : List (V × R)} (s : St K c ρ ((u, .pl r []) :: τ) σ H) (et : ρ[r]? = some (some t)) (z : ∀ q ∈ τ, ∀ p, q.2 ≠ .pl r p) : St K c (ρ.set r none) ((u, .tm t) :: τ) σ H := by
  have sr := s.plAt
  obtain ⟨G, fs, ft, C, L, M⟩ := s
  cases M with | @pl _ _ _ _ u0 t0 s0 f a1 a2 a3 a4 h3 =>
  obtain ⟨w, l1, g, l2, b1, b2, b3, b4⟩ := L.get et
  rw [sr] at b1
  cases b1
  have z0 := b4 G H .non (.d .non) [] (Same.refl _) (.of (Same.refl _)) (.d .non)
  obtain ⟨fp', sb, z1⟩ := z0.drop r (some u)
  have e1 : (ρ.set r (some (T.d .non))).set r none = ρ.set r none := by rw [List.set_set]
  have e2 : (σ.set r (some .non)).set r (some u) = σ := by rw [List.set_set, list_set_none sr]
  rw [e1, e2] at z1
  subst b2
  have P1 : (l1 ++ g ++ l2 ++ ft).Perm ((l1 ++ [] ++ l2) ++ (g ++ ft)) := by
    rw [List.perm_iff_count]
    intro y
    simp only [List.count_append, List.append_nil]
    omega
  exact ⟨G, fp', g ++ ft, (C.perm P1).sl (sb.append_right _), z1, .tm b3 (h3.unset z)⟩
end
section
variable {X : Cx} {W : WX} {ρ : Rho} {Φ : Ph} {o e : Expr} {xs : List T} {t : T} {apos cpos pos : Pos}
theorem s_appendMv (n r : Nat) (ho : E X ρ o (.pl n [])) (he : E X ρ e (.pl r [])) (et : ρ[n]? = some (some (.lst xs))) (er : ρ[r]? = some (some t)) (hnr : r ≠ n) (hl : xs.length < sizeLine) (h : Φ.nx ((ρ.set r none).set n (some (.lst (xs ++ [t])))))
    (hbase : attributeBase o "append" X.env (eval o X.env) = eval o X.env := by rfl)
    (hfew : ((backTo cpos (starEach [e] X.env)).all (fun x => !x.1) && (backToKw cpos (keywordEach [] X.env)).all (fun x => x.1.isSome)
      && decide ([e].length + ([] : List Keyword).length + (if ([] : List Keyword).isEmpty then 0 else 1) < 30)) = true := by rfl)
    (hline : (apos.endLine == cpos.line) = true := by rfl) (hs : starEach [e] X.env = (false, eval e X.env) :: starEach [] X.env := by rfl) (hplain : (backTo cpos (starEach [] X.env)).any (·.1) = false := by rfl)
    (hsw : swapsWith (.Call (.Attribute o "append" apos) [e] [] cpos) none pos.line X.env = pure false := by rfl) :
    S1 X W ρ (.Expr (.Call (.Attribute o "append" apos) [e] [] cpos) pos) Φ := fun c τ σ H tm s D P =>
  ts_of (ps_expr (pe_bm PySem.F.plainAttrs_list PySem.F.slot_list_append PySem.F.type_list_append mt_append peS (pa_cons peS pa_nil hs) hbase hfew hline hs hplain) hsw)
    (ho c τ σ H s _ fun v H1 s1 => by
      have hv : view ρ (.pl n []) = some (.lst xs) := view_pl et rfl
      obtain ⟨G, f, sb, w, _⟩ := s1.top hv
      obtain ⟨ar, vs, g, e1, _, e2, e3⟩ := w.is_lst
      refine ⟨by rw [e1]; exact .inl ⟨rfl, _, SqL.of e2⟩, he c _ σ H1 s1 _ fun u H2 s2 => ?_⟩
      obtain ⟨G', f', sb', w', _⟩ := s2.pop.top hv
      obtain ⟨ar', vs', g', e1', _, e2', e3'⟩ := w'.is_lst
      refine ⟨ar', vs', u, e1', rfl, e2', by rw [e3'.len]; exact hl, P.nx _ _ _ h ?_⟩
      have et' : (ρ.set r none)[n]? = some (some (.lst xs)) := by
        rw [List.getElem?_set_ne hnr]
        exact et
      have s3 := s2.take er fun q hq p => by
        rcases List.mem_cons.mp hq with z | z
        · subst z
          intro z
          cases z
          exact hnr rfl
        · intro z2
          have := tm q z
          rw [z2] at this
          cases this
      refine (StA.one s3).mut tm et' rfl fun G g fa sb w A nd _ => ?_
      obtain ⟨a3, v3, g3, q1, q2, q3, q4⟩ := w.is_lst
      rw [e1'] at q1
      cases q1
      rw [e2'] at q3
      cases q3
      subst q2
      have na : ar' ∉ g3 ++ fa := (List.nodup_cons.mp nd).1
      refine ⟨ar' :: (g3 ++ fa), ar' :: (g3 ++ fa), List.mem_cons_self, .refl _, .refl _, ?_⟩
      rw [e1']
      exact .lst upd_same ((q4.append A).keep (Same.refl _) _ _ _ (On.upd na)))
end
section
variable {X : Cx} {ρ : Rho} {iter : Expr} {pos : Pos}
theorem e_lcFN {α : Type} {xs : List α} {enc : α → D} {elt c0 : Expr} {scope : Scope} {nm : Str} {pos' : Pos} {f : α → T} {t : α → Bool} (n : Nat) (hc : X.calm = true) (nd : X.N.Nodup) (hi : EI X (.Name nm pos') ρ iter (xs.map enc)) (hρ : ρ[n]? = some none := by rfl)
    (ht : ∀ s H C cl fp x, x ∈ xs → Tt (blkX X scope s H C cl fp) (ρ.set n (some (.d (enc x)))) c0 (t x))
    (he : ∀ s H C cl fp x, x ∈ xs → t x = true → E (blkX X scope s H C cl fp) (ρ.set n (some (.d (enc x)))) elt (.tm (f x)))
    (hz : xs.length ≤ 1000000) (ok : BlkOk X.N X.env.scope scope [(nm, n)] := by exact blkOk_by (by first | decide +kernel | exact Eq.refl true)) (hn : X.N[n]? = some nm := by rfl)
    (hL : ∀ s H C cl fp, Loc (blkX X scope s H C cl fp).env.scope nm ∧ ((blkX X scope s H C cl fp).fn nm = true ∨ (blkX X scope s H C cl fp).env.scope.names.lookup nm = some .local) := by intro _ _ _ _ _; first | exact ⟨Or.inl rfl, Or.inr rfl⟩ | exact ⟨Or.inr rfl, Or.inl rfl⟩)
    (hs : ∀ x, foldedSetIterable iter X.env x = pure x := by intro _; rfl) : E X ρ (.ListComp elt [⟨.Name nm pos', iter, [c0], 0⟩] scope pos) (.tm (.lst ((xs.filter t).map f))) := by
  have e : xs.filterMap (fun x => if t x = true then some (f x) else none) = (xs.filter t).map f := fm_filter
  rw [← e]
  exact fun c τ σ H s Q q => te_of (pe_lc (own := [(nm, n)]) (g := gName n) (tt := fun σ H Q => ∀ s H0 C cl fp, tpS (blkX X scope s H0 C cl fp) [c0] σ H Q) (te := fun σ H Q => ∀ s H0 C cl fp, teS (blkX X scope s H0 C cl fp) elt σ H Q) hc nd piSS ok
    (fun s H C cl fp => pg_name (X := blkX X scope s H C cl fp) nd hn (hL s H C cl fp).1 (hL s H C cl fp).2) (fun s H C cl fp => ⟨fun pins s0 σ H1 Q I h => h s H C cl fp pins s0 I⟩) (fun s H C cl fp => ⟨fun pins s0 σ H1 Q I h => h s H C cl fp pins s0 I⟩) hs) (lcO_sem (g := fun x => if t x = true then some (f x) else none) n hi.c hρ (fun s H C cl fp x hx => ⟨t x, ts_one (ht s H C cl fp x hx), fun h => by rw [h]; rfl, fun h => ⟨_, by rw [h]; rfl, he s H C cl fp x hx h⟩⟩) hz s q)
end
theorem any_int {ds : List Int} {i : Int} : ((ds.map D.int).any fun z => PyData.eqv z.py (D.int i).py) = decide (i ∈ ds) := by
  rw [Bool.eq_iff_iff, List.any_eq_true, decide_eq_true_iff]
  constructor
  · rintro ⟨d, hd, h⟩
    obtain ⟨x, hx, rfl⟩ := List.mem_map.mp hd
    rw [eqv_int] at h
    have : x = i := by simpa using h
    exact this ▸ hx
  · exact fun h => ⟨.int i, List.mem_map.mpr ⟨i, h, rfl⟩, by rw [eqv_int]; simp⟩
end DL
namespace DL
open PySem PySem.Spec PyProof.Rows L2
theorem Own.is_tagd {K : PySem.W.Frag} {G H : Hp} {v : V} {a : Addr} {x : D} {f : List Addr} (h : Own K G H v (.tag a (.d x)) f) : v = .ref a ∧ Dr K G (.ref a) x ∧ f = [] := by
  cases h with | tag h1 =>
  obtain ⟨q1, q2⟩ := h1.is_d
  exact ⟨rfl, q1, q2⟩
section
variable {X : Cx} {W : WX} {ρ : Rho} {Φ : Ph} {nm : Str} {pos : Pos} {x : D} {a : Addr} {n : Nat}
theorem e_varT (n : Nat) (hρ : ρ[n]? = some (some (.tag a (.d x))) := by rfl) (hN : X.N[n]? = some nm := by rfl) (hv : Vis X.env.scope nm := by first | exact Or.inl rfl | exact Or.inr (Or.inl rfl) | exact Or.inr (Or.inr rfl)) (hd : (nm == ("__debug__" : Str)) = false := by decide)
    (hcd : (nm == ("__classdict__" : Str)) = false := by decide) : E X ρ (.Name nm pos) (.tm (.d x)) := fun c τ σ H s Q k =>
  te_of (pe_var hN hv hd hcd) (by
    obtain ⟨G, fs, ft, C, L, M⟩ := s
    obtain ⟨v, l1, f, l2, a1, a2, a3, _⟩ := L.get hρ
    obtain ⟨e, d, _⟩ := a3.is_tagd
    subst e
    exact ⟨_, a1, k _ H ⟨G, fs, [] ++ ft, by simpa using C, L, .tm (.d d) M⟩⟩)
def D.isRef : D → Bool
  | .scr _ => true | .lst _ => true | .tup _ => true | .dct _ => true | .obj _ _ => true | _ => false
theorem Dr.isRef {K : PySem.W.Frag} {G : Hp} {v : V} (h : Dr K G v x) (e : x.isRef = true) : ∃ a, v = .ref a := by
  cases h <;> first | exact ⟨_, rfl⟩ | cases e
theorem s_tag (n : Nat) {sts : List Stmt} (hρ : ρ[n]? = some (some (.d x)) := by rfl) (hr : x.isRef = true := by rfl) (h : ∀ a, S X W (ρ.set n (some (.tag a (.d x)))) sts Φ) : S X W ρ sts Φ := fun c τ σ H tm s D P => by
  obtain ⟨G, fs, ft, C, L, M⟩ := s
  obtain ⟨v, l1, f, l2, a1, a2, a3, a4⟩ := L.get hρ
  obtain ⟨d, ef⟩ := a3.is_d
  obtain ⟨a, e⟩ := d.isRef hr
  subst e
  have w := a4 G H (.ref a) (.tag a (.d x)) f (Same.refl _) (.of (Same.refl _)) (.tag a3)
  rw [list_set_none a1, ← a2] at w
  exact h a c τ σ H tm ⟨G, fs, ft, C, w, M.move (Same.refl _) tm (.of (Same.refl _))⟩ D P
end
def BkO (ρ0 : Rho) : T → Prop
  | .d x => x.flat.isSome = true
  | .tag a (.d x) => some (.tag a (.d x)) ∈ ρ0
  | .dct kvs => ∀ q ∈ kvs, ∃ i, q.2 = .d (.int i)
  | _ => False
def BkL (ρ0 : Rho) : Rho → Prop
  | [] => True
  | none :: r => BkL ρ0 r
  | some t :: r => BkO ρ0 t ∧ BkL ρ0 r
theorem Dr.flatAny {K : PySem.W.Frag} {G G' : Hp} {v : V} {x : D} (h : Dr K G v x) (e : x.flat.isSome = true) : Dr K G' v x := by
  cases h <;> first | exact .non | exact .bl _ | exact .int _ | exact .str _ | cases e
theorem OwnK.ints {K : PySem.W.Frag} {G G' H : Hp} : ∀ {vs : List (List Key × V)} {kvs : List (List Key × T)} {f : List Addr}, OwnK K G H vs kvs f → (∀ q ∈ kvs, ∃ i, q.2 = .d (.int i)) → OwnK K G' H vs kvs f
  | [], [], _, h, _ => by cases h; exact .nil
  | (k0, v) :: vs, (k1, t) :: kvs, f, h, e => by
    cases h with | cons h1 h2 =>
    obtain ⟨i, hi⟩ := e (k0, t) List.mem_cons_self
    have hi : t = .d (.int i) := hi
    subst hi
    obtain ⟨q1, q2⟩ := h1.is_d
    subst q2
    cases q1
    exact .cons (.d (.int i)) (OwnK.ints h2 fun q hq => e q (List.mem_cons_of_mem _ hq))
  | [], _ :: _, _, h, _ => by cases h
  | _ :: _, [], _, h, _ => by cases h
theorem OwnK.intsFp {K : PySem.W.Frag} {G H : Hp} : ∀ {vs : List (List Key × V)} {kvs : List (List Key × T)} {f : List Addr}, OwnK K G H vs kvs f → (∀ q ∈ kvs, ∃ i, q.2 = .d (.int i)) → f = []
  | [], [], _, h, _ => by cases h; rfl
  | (k0, v) :: vs, (k1, t) :: kvs, f, h, e => by
    cases h with | cons h1 h2 =>
    obtain ⟨i, hi⟩ := e (k0, t) List.mem_cons_self
    have hi : t = .d (.int i) := hi
    subst hi
    rw [h1.is_d.2, OwnK.intsFp h2 fun q hq => e q (List.mem_cons_of_mem _ hq)]
    rfl
  | [], _ :: _, _, h, _ => by cases h
  | _ :: _, [], _, h, _ => by cases h
theorem Own.back {K : PySem.W.Frag} {G G' H : Hp} {ρ0 : Rho} (hT : ∀ a x, some (.tag a (.d x)) ∈ ρ0 → Dr K G (.ref a) x) {v : V} {t : T} {f : List Addr} (h : Own K G' H v t f) (b : BkO ρ0 t) : Own K G H v t f := by
  cases t with
  | d x =>
    obtain ⟨q1, q2⟩ := h.is_d
    subst q2
    exact .d (q1.flatAny b)
  | tag a t =>
    cases t with
    | d x =>
      obtain ⟨e, d, q⟩ := h.is_tagd
      subst e q
      exact .tag (.d (hT _ _ b))
    | lst _ => cases b
    | tup _ => cases b
    | dct _ => cases b
    | obj _ _ => cases b
    | tag _ _ => cases b
  | dct kvs =>
    obtain ⟨a, vs, g, e1, e2, e3, e4⟩ := h.is_dct
    subst e1 e2
    exact .dct e3 (e4.ints b)
  | lst _ => cases b
  | tup _ => cases b
  | obj _ _ => cases b
theorem Slots.backB {K : PySem.W.Frag} {G G' H : Hp} {ρ0 : Rho} (hT : ∀ a x, some (.tag a (.d x)) ∈ ρ0 → Dr K G (.ref a) x) : ∀ {ρ : Rho} {σ : L2.St} {f : List Addr}, Slots K G' H ρ σ f → BkL ρ0 ρ → Slots K G H ρ σ f
  | _, _, _, .nil, _ => .nil
  | _, _, _, .non h, b => .non (Slots.backB hT h b)
  | _, _, _, .som h1 h2, b => .som (h1.back hT b.1) (Slots.backB hT h2 b.2)
theorem Slots.tagged {K : PySem.W.Frag} {G H : Hp} : ∀ {ρ : Rho} {σ : L2.St} {f : List Addr}, Slots K G H ρ σ f → ∀ a x, some (.tag a (.d x)) ∈ ρ → Dr K G (.ref a) x
  | _, _, _, .nil, a, x, m => by cases m
  | _, _, _, .non h, a, x, m => Slots.tagged h a x (by simpa using m)
  | _, _, _, .som (t := t) h1 h2, a, x, m => by
    rcases List.mem_cons.mp m with e | m
    · cases e
      exact h1.is_tagd.2.1
    · exact Slots.tagged h2 a x m
/-- what is owned by such slots is no tuple -/
theorem Slots.noTup {K : PySem.W.Frag} {G H : Hp} {ρ0 : Rho} : ∀ {ρ : Rho} {σ : L2.St} {f : List Addr}, Slots K G H ρ σ f → BkL ρ0 ρ → ∀ a ∈ f, ∀ vs, H a ≠ some (.tup vs)
  | _, _, _, .nil, _, a, m, _ => by cases m
  | _, _, _, .non h, b, a, m, vs => Slots.noTup h b a m vs
  | _, _, _, .som (t := t) h1 h2, b, a, m, vs => by
    rcases List.mem_append.mp m with m | m
    · have b1 := b.1
      cases t with
      | d x => rw [h1.is_d.2] at m; cases m
      | tag a t =>
        cases t with
        | d x => rw [h1.is_tagd.2.2] at m; cases m
        | lst _ => cases b1
        | tup _ => cases b1
        | dct _ => cases b1
        | obj _ _ => cases b1
        | tag _ _ => cases b1
      | dct kvs =>
        obtain ⟨a', ws, g, e1, e2, e3, e4⟩ := h1.is_dct
        subst e1 e2
        have gn : g = [] := e4.intsFp b1
        subst gn
        have : a = a' := by simpa using m
        subst this
        rw [e3]
        intro z
        cases z
      | lst _ => cases b1
      | tup _ => cases b1
      | obj _ _ => cases b1
    · exact Slots.noTup h2 b.2 a m vs
def fgt (fg : List Nat) (ρ : Rho) : Rho := fg.foldl (fun r n => r.set n none) ρ
theorem St.fgt {K : PySem.W.Frag} {c : Cst} {σ : L2.St} {H : Hp} {τ : List (V × R)} (tm : TmOnly τ) : ∀ {fg : List Nat} {ρ : Rho}, St K c ρ τ σ H → St K c (DL.fgt fg ρ) τ σ H
  | [], _, s => s
  | n :: fg, ρ, s => by
    show St K c (DL.fgt fg (ρ.set n none)) τ σ H
    refine St.fgt tm ?_
    by_cases h : n < σ.length
    · have s2 := s.forget (i := n) (x := σ[n]) tm
      rw [List.set_getElem_self] at s2
      exact s2
    · have e : ρ.set n none = ρ := List.set_eq_of_length_le (by rw [s.len]; omega)
      rw [e]
      exact s
theorem keys_len {H : Hp} : ∀ {kvs : List (List Key × V)} {bs : List Addr}, IsKeys H kvs bs → kvs.length = bs.length
  | _, _, .nil => rfl
  | _, _, .cons r t => by rw [List.length_cons, List.length_cons, keys_len t]
theorem Drs.keysL {K : PySem.W.Frag} {G H : Hp} (hG : ∀ b vs, H b = some (.tup vs) → G b = some (.tup vs)) : ∀ {kvs : List (List Key × V)} {bs : List Addr} {xs : List (Int × Int)}, IsKeys H kvs bs → kvs.map (·.1) = xs.map vkey → Drs K G (bs.map V.ref) (xs.map tp2)
  | _, _, [], .nil, _ => .nil
  | _, _, v :: xs, .cons (a := q) r t, e => by
    rw [List.map_cons, List.map_cons] at e
    obtain ⟨e1, e2⟩ := List.cons.inj e
    rw [e1] at r
    exact .cons (.tup (hG _ _ r) (.cons (.int v.1) (.cons (.int v.2) .nil))) (Drs.keysL hG t e2)
  | _, _, _ :: _, .nil, e => by cases e
  | _, _, [], .cons r t, e => by cases e
section
variable {X : Cx} {W : WX} {ρ : Rho} {Φ : Ph} {kvs : List (List Key × T)} {xs : List (Int × Int)} {p p2 p3 pos pos' : Pos} {nm dn : Str}
theorem walk_list {K : PySem.W.Frag} {a : Addr} {ds : List D} : Walks K [(.ref a, .tm (.d (.lst ds)))] (Itl K a) ds := fun c ρ τ σ H s => by
  refine ⟨fun i x hx => ?_, ?_⟩
  · obtain ⟨a', vs', f1, f2, f3⟩ := (s.see (t := .d (.lst ds)) rfl).is_lst
    cases f1
    obtain ⟨u0, g1, _⟩ := f3.get hx
    refine ⟨⟨vs', u0, SqL.of f2, g1⟩, fun v' H' ⟨eH, y⟩ => ?_⟩
    subst eH
    have y1 := y vs' (SqL.of f2)
    rw [g1] at y1
    cases y1
    exact s.item hx f2 g1
  · obtain ⟨a', vs', f1, f2, f3⟩ := (s.see (t := .d (.lst ds)) rfl).is_lst
    cases f1
    exact ⟨vs', SqL.of f2, Nat.le_of_eq f3.len⟩
theorem s_forKeys {body : List Stmt} {k : Nat} (n nd : Nat) (fg : List Nat) (Y : Bx X W k) (hm : X.mg "list" = none) (hd : ρ[nd]? = some (some (.dct kvs))) (hx : kvs.map (·.1) = xs.map vkey) (hb0 : BkL ρ ρ) (Iv : Nat → Rho → Prop) (h0 : Iv 0 ρ) (hlen : ∀ i ρ', Iv i ρ' → n < ρ'.length)
    (hb : ∀ i x ρ', xs[i]? = some x → Iv i ρ' → S X W (ρ'.set n (some (.d (tp2 x)))) body { nx := Iv (i + 1), ct := Iv (i + 1) }) (hend : ∀ ρ', Iv xs.length ρ' → BkL ρ (fgt fg ρ') ∧ Φ.nx (fgt fg ρ'))
    (hNd : X.N[nd]? = some dn := by rfl) (hvd : Vis X.env.scope dn := by first | exact Or.inl rfl | exact Or.inr (Or.inl rfl) | exact Or.inr (Or.inr rfl)) (hdd : (dn == ("__debug__" : Str)) = false := by decide) (hdc : (dn == ("__classdict__" : Str)) = false := by decide)
    (hn : X.N[n]? = some nm := by rfl) (hxl : Loc X.env.scope nm := by first | exact Or.inl rfl | exact Or.inr rfl)
    (hf : X.fn nm = true ∨ X.env.scope.names.lookup nm = some .local := by first | exact .inl rfl | exact .inr rfl | assumption) (hg : Gl X "list" := by rfl)
    (hst : starEach [.Name dn p2] X.env = (false, eval (.Name dn p2) X.env) :: starEach [] X.env := by rfl) (hpl : (backTo p3 (starEach [] X.env)).any (·.1) = false := by rfl)
    (hs : ∀ x, foldedSetIterable (.Call (.Name "list" p) [.Name dn p2] [] p3) X.env x = pure x := by intro _; rfl) :
    S1 X W ρ (.For (.Name nm pos') (.Call (.Name "list" p) [.Name dn p2] [] p3) body [] pos) Φ := fun c τ σ H tm s D P =>
  ts_of (ps_for Y.passes Y.calm (pi_list (pe_callTy (call_list_dT Y.calm) hg hm boot_list (pa_cons peS pa_nil hst) (by decide) (by decide) hst hpl)) (pg_name Y.nd hn hxl hf) pbS hs) (by
    refine e_varP nd hd hNd hvd hdd hdc c τ σ H s _ fun v H1 s1 => ?_
    obtain ⟨G0, f0, sb0, w0, _⟩ := s1.top (t := .dct kvs) (view_pl hd rfl)
    obtain ⟨d, ws, g, e1, _, e3, e4⟩ := w0.is_dct
    subst e1
    have hkk : ws.map (·.1) = xs.map vkey := by rw [e4.keys, hx]
    refine ⟨d, ws, rfl, .inl e3, fun q bs hq hk => ⟨q, rfl, ⟨_, SqL.of upd_same⟩, ?_⟩⟩
    obtain ⟨G, fs, ft, C, L, M⟩ := s1.pop
    -- the loop's own base
    have sm : Same H1 (upd H1 q (.lst (bs.map V.ref))) := fun b o e => by rw [upd_ne (ne_of_none e hq)]; exact e
    let B1 : Hp := fun b => match H1 b with
      | some (.tup us) => some (.tup us)
      | _ => if b = q then some (.lst (bs.map V.ref)) else G b
    have hBt : ∀ b us, H1 b = some (.tup us) → B1 b = some (.tup us) := fun b us e => by
      show (match H1 b with | some (.tup us) => some (HO.tup us) | _ => if b = q then some (HO.lst (bs.map V.ref)) else G b) = _
      rw [e]
    have hBq : B1 q = some (.lst (bs.map V.ref)) := by
      show (match H1 q with | some (.tup us) => some (HO.tup us) | _ => if q = q then some (HO.lst (bs.map V.ref)) else G q) = _
      rw [hq]
      simp
    have hBG : ∀ b o, B1 b = some o → (∃ us, H1 b = some (.tup us) ∧ o = .tup us) ∨ (b = q ∧ o = .lst (bs.map V.ref)) ∨ G b = some o := fun b o e => by
      have e : (match H1 b with | some (.tup us) => some (HO.tup us) | _ => if b = q then some (HO.lst (bs.map V.ref)) else G b) = some o := e
      split at e
      · next us hu => cases e; exact .inl ⟨us, hu, rfl⟩
      · by_cases z : b = q
        · rw [if_pos z] at e; cases e; exact .inr (.inl ⟨z, rfl⟩)
        · rw [if_neg z] at e; exact .inr (.inr e)
    have sGB : Same G B1 := fun b o e => by
      have h1 := C.sub b o e
      show (match H1 b with | some (.tup us) => some (HO.tup us) | _ => if b = q then some (HO.lst (bs.map V.ref)) else G b) = some o
      rw [h1]
      have z : b ≠ q := ne_of_none h1 hq
      cases o <;> simp [z, e]
    have nt := L.noTup hb0
    have hfs : ∀ b ∈ fs, B1 b = none := fun b m => by
      cases e : B1 b with
      | none => rfl
      | some o =>
        rcases hBG b o e with ⟨us, z, _⟩ | ⟨z, _⟩ | z
        · exact absurd z (nt b m us)
        · subst z
          obtain ⟨o', z⟩ := L.there b m
          rw [hq] at z; cases z
        · rw [(C.own b (List.mem_append_left _ m)).1] at z; cases z
    have nds := List.nodup_append.mp C.nd
    have C1 : Core ⟨upd H1 q (.lst (bs.map V.ref)), B1, fs⟩ B1 (upd H1 q (.lst (bs.map V.ref))) (fs ++ []) := by
      refine ⟨fun b o e => ?_, Same.refl _, fun b o e => .inl ⟨o, e⟩, fun b o e _ => e, fun b o e => ⟨o, e⟩, by simpa using nds.1, fun b m => ?_⟩
      · rcases hBG b o e with ⟨us, z, rfl⟩ | ⟨rfl, rfl⟩ | z
        · exact sm _ _ z
        · exact upd_same
        · exact sm _ _ (C.sub _ _ z)
      · have m : b ∈ fs := by simpa using m
        exact ⟨hfs b m, .inl m⟩
    have hdl : Dr X.K B1 (.ref q) (.lst (xs.map tp2)) := .lst hBq (Drs.keysL hBt hk hkk)
    have s2 : St X.K ⟨upd H1 q (.lst (bs.map V.ref)), B1, fs⟩ ρ ([(.ref q, .tm (.d (.lst (xs.map tp2))))] ++ []) σ (upd H1 q (.lst (bs.map V.ref))) := ⟨B1, fs, [] ++ [], by simpa using C1, L.keep sGB (.of sm), .tm (.d hdl) .nil⟩
    have wk := walk_list (K := X.K) (a := q) (ds := xs.map tp2)
    have tmO : TmOnly [((.ref q : V), R.tm (.d (.lst (xs.map tp2))))] := TmOnly.nil.cons
    refine ⟨fun i m σ H => m = xs.length - i ∧ i ≤ xs.length ∧ ∃ ρ', Iv i ρ' ∧ St X.K ⟨upd H1 q (.lst (bs.map V.ref)), B1, fs⟩ ρ' ([(.ref q, .tm (.d (.lst (xs.map tp2))))] ++ []) σ H, ⟨_, rfl, Nat.zero_le _, ρ, h0, s2⟩, ?_⟩
    rintro i m σ2 H2 ⟨rfl, hi, ρ', iv, s2⟩
    by_cases hlt : i < xs.length
    · obtain ⟨go, yl⟩ := (wk _ ρ' [] σ2 H2 s2).1 i (tp2 xs[i]) (by rw [List.getElem?_map, List.getElem?_eq_getElem hlt]; rfl)
      refine .inr ⟨go, fun σ' H' => ∃ ρ'', Iv (i + 1) ρ'' ∧ St X.K ⟨upd H1 q (.lst (bs.map V.ref)), B1, fs⟩ ρ'' ([(.ref q, .tm (.d (.lst (xs.map tp2))))] ++ []) σ' H', fun σ' H' ⟨ρ'', iv', s'⟩ => ⟨xs.length - (i + 1), by omega, rfl, hlt, ρ'', iv', s'⟩, fun v H3 y => ?_⟩
      have s3 := (yl v H3 y).store (i := n) (hlen i ρ' iv) (tmO.app TmOnly.nil)
      exact hb i _ ρ' (List.getElem?_eq_getElem hlt) iv _ _ _ H3 (tmO.app TmOnly.nil) s3 _ ⟨fun ρ4 σ4 H4 q s4 => ⟨ρ4, q, s4⟩, fun _ _ _ _ _ q _ => q.elim, fun _ _ _ q _ => q.elim, fun ρ4 σ4 H4 q s4 => ⟨ρ4, q, s4⟩, fun _ _ _ _ q _ => q.elim⟩
    · have e : i = xs.length := by omega
      subst e
      have z := (wk _ ρ' [] σ2 H2 s2).2
      rw [List.length_map] at z
      refine .inl ⟨z, ?_⟩
      obtain ⟨bk, nx⟩ := hend ρ' iv
      refine P.nx (fgt fg ρ') σ2 H2 nx ?_
      have s3 := s2.fgt (fg := fg) (tmO.app TmOnly.nil)
      obtain ⟨G', fs', ft', C', L', M'⟩ := s3
      have L2 := L'.backB (G := G) L.tagged bk
      have eft : ft' = [] := by
        cases M' with | tm h1 h2 =>
        cases h2
        rw [h1.is_d.2]
        rfl
      subst eft
      have sub : ∀ b ∈ fs', b ∈ fs ∨ H1 b = none := fun b m => by
        rcases (C'.own b (by simpa using m)).2 with z | z
        · exact .inl z
        · have z : upd H1 q (.lst (bs.map V.ref)) b = none := z
          by_cases e : b = q
          · subst e; rw [upd_same] at z; cases z
          · rw [upd_ne e] at z; exact .inr z
      have sG' : Same G G' := sGB.trans C'.base
      have hst : ∀ b o, H1 b = some o → b ∉ fs → H2 b = some o := fun b o e nf => C'.prot b o (sm b o e) nf
      have nd' : fs'.Nodup := by simpa using C'.nd
      refine ⟨G, fs', ft, ⟨fun b o e => C'.sub b o (sG' b o e), C.base, C.newG, fun b o e nf => ?_, fun b o e => ?_, List.nodup_append.mpr ⟨nd', nds.2.1, fun b m b' m' e => ?_⟩, fun b m => ?_⟩, L2, M.move (Same.refl _) tm fun b m o e => hst b o e fun z => nds.2.2 b z b m rfl⟩
      · refine hst b o (C.prot b o e nf) fun z => ?_
        rcases (C.own b (List.mem_append_left _ z)).2 with y | y
        · exact nf y
        · rw [e] at y; cases y
      · obtain ⟨o', z⟩ := C.there b o e
        exact C'.there b o' (sm b o' z)
      · subst e
        rcases sub b m with z | z
        · exact nds.2.2 b z b m' rfl
        · obtain ⟨o', y⟩ := M.there b m'
          rw [z] at y; cases y
      · rcases List.mem_append.mp m with m | m
        · refine ⟨?_, ?_⟩
          · cases e : G b with
            | none => rfl
            | some o =>
              have := sG' b o e
              rw [(C'.own b (by simpa using m)).1] at this; cases this
          · rcases sub b m with z | z
            · exact (C.own b (List.mem_append_left _ z)).2
            · cases e : c.H0 b with
              | none => exact .inr rfl
              | some o =>
                obtain ⟨o', y⟩ := C.there b o e
                rw [z] at y; cases y
        · exact C.own b (List.mem_append_right _ m))
end
end DL
namespace DL
open PySem PySem.Spec PyProof.Rows L2
section
variable {X : Cx}
def tLenSetT (K : PySem.W.Frag) (ta : TE) : TE := fun σ H Q => ta σ H fun x H1 => ∃ (l : Addr) (ks : List (Addr × List Int)), x = V.ref l ∧ SqL K H1 l (ks.map fun p => V.ref p.1) ∧ (∀ p ∈ ks, SqT K H1 p.1 (p.2.map V.int)) ∧ ks.length < 64 ∧ (ks.map (·.2)).Nodup ∧ Q (.int ks.length) H1
theorem nodup_sub_len {α : Type} [DecidableEq α] : ∀ {l m : List α}, l.Nodup → (∀ x ∈ l, x ∈ m) → l.length ≤ m.length
  | [], m, _, _ => by simp
  | x :: l, m, nd, h => by
    obtain ⟨n1, n2⟩ := List.nodup_cons.mp nd
    have hx := h x List.mem_cons_self
    have h1 := List.length_erase_of_mem hx
    have h2 : 0 < m.length := List.length_pos_of_mem hx
    have := nodup_sub_len (l := l) (m := m.erase x) n2 fun y hy => (List.mem_erase_of_ne (fun z : y = x => n1 (z ▸ hy))).mpr (h y (List.mem_cons_of_mem _ hy))
    simp only [List.length_cons]
    omega
theorem pe_lenSetT {a : Expr} {ta : TE} {p p2 q pos : Pos} (hc : X.calm = true) (hu : X.A.units + 64 < cLine) (hg : Gl X "len") (hm : X.mg "len" = none) (hg2 : Gl X "set") (hm2 : X.mg "set" = none) (ha : PE X a ta)
    (na : starEach [a] X.env = (false, eval a X.env) :: starEach [] X.env := by rfl) : PE X (.Call (.Name "len" p) [.Call (.Name "set" p2) [a] [] q] [] pos) (tLenSetT X.K ta) := by
  refine ⟨fun pins s σ H Q I h => ?_⟩
  refine Call_ (ld_blt I hg hm PySem.boot_len ?_)
  refine PyProof.Rows.callWith_builtin1 (PyProof.Rows.args_cons ?_ rfl) rfl rfl
  refine Call_ (ld_blt I hg2 hm2 PyProof.Rows.boot_set ?_)
  refine PyProof.Rows.callWith_type1 (PyProof.Rows.args_cons (thn (ha.run pins s σ H _ I h) fun v s1 ⟨x, H1, I1, r1, q1⟩ => PyProof.Rows.args_nil ?_) na) na rfl
  obtain ⟨l, ks, rfl, hq, hk, h1, hnd, q1⟩ := q1
  cases r1
  obtain ⟨its, rv, pl, hz⟩ := I1.list hq
  refine call_set_tups (P := X.prog) (w := X.w) ks (I1.ok.hd hc) pl.isList (by simpa using refs_of_vals rv) (fun p hp => I1.isT (hk p hp)) h1 (by omega) fun h' tk L es ep t R g k => ?_
  have hL : L.length = ks.length := by
    have a1 := nodup_sub_len R.nd (m := ks.map (·.2)) fun x hx => by
      obtain ⟨p, hp, rfl⟩ := List.mem_map.mp hx
      exact List.mem_map.mpr ⟨p, List.mem_of_mem_take (g.sub p hp), rfl⟩
    have a2 := nodup_sub_len hnd (m := L.map (·.2)) fun x hx => by
      obtain ⟨p, hp, rfl⟩ := List.mem_map.mp hx
      exact g.all p (by rw [List.take_length]; exact hp)
    rw [List.length_map, List.length_map] at a1 a2
    omega
  refine PyProof.Rows.args_nil ?_
  obtain ⟨o, ho, hex, hd⟩ := R.ob
  have I2 : Inv X pins σ H1 { s1 with heap := h', toks := tk } := I1.kept fun b o e => k b o e
  have hz : es.size = ks.length := by rw [R.size (s := { s1 with heap := h', toks := tk }), hL]
  refine call_len_set ho hex hd (R.fits (s := { s1 with heap := h', toks := tk })) (by rw [hz] <;> omega) ⟨.int ks.length, H1, I2.tok _, ⟨_, by rw [hz]⟩, q1⟩
end
section
variable {X : Cx} {ρ : Rho} {a : Expr} {r : R} {t : T} {qs : List (Int × Int)} {p p2 q pos : Pos}
theorem Drs.pairAddrs {K : PySem.W.Frag} {G : Hp} : ∀ {vs : List V} {qs : List (Int × Int)}, Drs K G vs (qs.map tp2) → ∃ ks : List (Addr × List Int), vs = ks.map (fun p => V.ref p.1) ∧ ks.map (·.2) = qs.map (fun q => [q.1, q.2]) ∧ ∀ p ∈ ks, G p.1 = some (.tup (p.2.map V.int))
  | [], [], _ => ⟨[], rfl, rfl, fun _ h => nomatch h⟩
  | v :: vs, q :: qs, h => by
    cases h with | cons h1 h2 =>
    obtain ⟨b, us, e1, e2, e3⟩ := h1.is_tup
    obtain ⟨ks, f1, f2, f3⟩ := Drs.pairAddrs h2
    have e4 := e3.ints (ns := [q.1, q.2])
    subst e1 e4 f1
    refine ⟨(b, [q.1, q.2]) :: ks, rfl, ?_, fun p hp => ?_⟩
    · rw [List.map_cons, List.map_cons, f2]
    · rcases List.mem_cons.mp hp with z | z
      · subst z; exact e2
      · exact f3 p z
  | [], _ :: _, h => by cases h
  | _ :: _, [], h => by cases h
theorem e_lenSet (hc : X.calm = true) (hu : X.A.units + 64 < cLine) (hm : X.mg "len" = none) (hm2 : X.mg "set" = none) (ha : E X ρ a r) (hv : view ρ r = some t) (hd : isDL t (qs.map tp2)) (h1 : qs.length < 64) (nd : qs.Nodup) (hg : Gl X "len" := by rfl) (hg2 : Gl X "set" := by rfl)
    (na : starEach [a] X.env = (false, eval a X.env) :: starEach [] X.env := by rfl) : E X ρ (.Call (.Name "len" p) [.Call (.Name "set" p2) [a] [] q] [] pos) (.tm (.d (.int (qs.length : Int)))) := fun c τ σ H s Q k =>
  te_of (pe_lenSetT hc hu hg hm hg2 hm2 peS na) (ha c τ σ H s _ fun v H1 s1 => by
    obtain ⟨G, f, sb, w, _⟩ := s1.top hv
    obtain ⟨ar, vs, e1, e2, e3⟩ := hd.at sb w
    obtain ⟨ks, f1, f2, f3⟩ := e3.pairAddrs
    have hl : ks.length = qs.length := by have := congrArg List.length f2; simpa using this
    refine ⟨ar, ks, e1, f1 ▸ SqL.of e2, fun p hp => SqT.of (sb _ _ (f3 p hp)), by omega, ?_, ?_⟩
    · rw [f2]
      exact nd.map (f := fun q : Int × Int => [q.1, q.2]) fun a b hne e => hne (by
        have e1 := congrArg (fun l => l.head?) e
        have e2 := congrArg (fun l => l[1]?) e
        exact Prod.ext (by simpa using e1) (by simpa using e2))
    · rw [hl]
      exact k _ _ s1.pop.int)
end
theorem DrK.keysD {K : PySem.W.Frag} {G : Hp} : ∀ {vs : List (List Key × V)} {ds : List (List Key × D)}, DrK K G vs ds → vs.map (·.1) = ds.map (·.1)
  | [], [], _ => rfl
  | _ :: vs, _ :: ds, h => by
    cases h with | cons h1 h2 =>
    rw [List.map_cons, List.map_cons, DrK.keysD h2]
  | [], _ :: _, h => by cases h
  | _ :: _, [], h => by cases h
theorem upd_back {H : Hp} {d D0 : Addr} {f u l : HO} (hd : H d = some u) (hne : D0 ≠ d) : upd (upd (upd H d f) D0 l) d u = upd H D0 l := by
  funext b
  unfold upd
  by_cases h1 : b = d
  · subst h1
    rw [if_pos rfl, if_neg (Ne.symm hne), hd]
  · rw [if_neg h1, if_neg h1]
section
variable {X : Cx} {ρ : Rho} {kvs : List (List Key × D)} {xs : List (Int × Int)} {en g : Int × Int → Int} {e2 : Expr} {nm dn : Str} {p1 p2 p3 p4 pd pos pos' : Pos} {scope : Scope}
theorem e_lcEn (n nd : Nat) (hc : X.calm = true) (ndN : X.N.Nodup) (hu : X.A.units + 1 < cLine) (hρd : ρ[nd]? = some (some (.d (.dct kvs)))) (hρn : ρ[n]? = some none) (hx : kvs.map (·.1) = xs.map vkey) (hget : ∀ v ∈ xs, dGet kvs (vkey v) = some (.int (en v))) (hz : xs.length ≤ 1000000)
    (he2 : ∀ c τ σ H, St X.K c ρ τ σ H → ∀ s0 H0 C cl fp (σ2 : L2.St) H2 b v, v ∈ xs → (∀ j, j ≠ n → σ2[j]? = σ[j]?) → σ2[n]? = some (some (.ref b)) → H2 b = some (.tup [.int v.1, .int v.2]) → (∀ a o, H a = some o → (∀ ws, o ≠ .dT ws) → H2 a = some o) → ∀ Q : VK, Q (.int (g v)) H2 → teS (blkX X scope s0 H0 C cl fp) e2 σ2 H2 Q)
    (hNd : X.N[nd]? = some dn := by rfl) (hvd : Vis X.env.scope dn := by first | exact Or.inl rfl | exact Or.inr (Or.inl rfl) | exact Or.inr (Or.inr rfl)) (hdd : (dn == ("__debug__" : Str)) = false := by decide) (hdc : (dn == ("__classdict__" : Str)) = false := by decide)
    (hvb : ∀ s H C cl fp, Vis (blkX X scope s H C cl fp).env.scope dn := by intro _ _ _ _ _; first | exact Or.inl rfl | exact Or.inr (Or.inl rfl) | exact Or.inr (Or.inr rfl))
    (hvn : ∀ s H C cl fp, Vis (blkX X scope s H C cl fp).env.scope nm := by intro _ _ _ _ _; first | exact Or.inl rfl | exact Or.inr (Or.inl rfl) | exact Or.inr (Or.inr rfl)) (hnd : (nm == ("__debug__" : Str)) = false := by decide) (hnc : (nm == ("__classdict__" : Str)) = false := by decide)
    (ok : BlkOk X.N X.env.scope scope [(nm, n)] := by exact blkOk_by (by first | decide +kernel | exact Eq.refl true)) (hn : X.N[n]? = some nm := by rfl)
    (hL : ∀ s H C cl fp, Loc (blkX X scope s H C cl fp).env.scope nm ∧ ((blkX X scope s H C cl fp).fn nm = true ∨ (blkX X scope s H C cl fp).env.scope.names.lookup nm = some .local) := by intro _ _ _ _ _; first | exact ⟨Or.inl rfl, Or.inr rfl⟩ | exact ⟨Or.inr rfl, Or.inl rfl⟩)
    (hs : ∀ x, foldedSetIterable (.Name dn pd) X.env x = pure x := by intro _; rfl) :
    E X ρ (.ListComp (.BinOp (.Subscript (.Name dn p1) (.Name nm p2) p3) .Add e2 p4) [⟨.Name nm pos', .Name dn pd, [], 0⟩] scope pos) (.tm (.lst (xs.map fun v => T.d (.int (en v + g v))))) := fun c τ σ H s Q q => by
  obtain ⟨v0, hσd, s0⟩ := s.var hρd
  obtain ⟨G, sbG, hDr⟩ := s0.deep
  obtain ⟨d, ws, e1, eG, dk⟩ := hDr.is_dct
  subst e1
  have hd : H d = some (.dT ws) := sbG _ _ eG
  have hkk : ws.map (·.1) = xs.map vkey := by rw [dk.keysD, hx]
  have hwl : ws.length = xs.length := by have := congrArg List.length hkk; simpa using this
  have hnσ : n < σ.length := by
    have := (List.getElem?_eq_some_iff.mp hρn).1
    rw [s.len] at this; exact this
  have hndn : nd ≠ n := fun z => by
    rw [z, hρn] at hρd; cases hρd
  refine te_of (e := .ListComp (.BinOp (.Subscript (.Name dn p1) (.Name nm p2) p3) .Add e2 p4) [⟨.Name nm pos', .Name dn pd, [], 0⟩] scope pos) (pe_lock (pe_lc (elt := .BinOp (.Subscript (.Name dn p1) (.Name nm p2) p3) .Add e2 p4) (tg := .Name nm pos') (iter := .Name dn pd) (ifs := []) (own := [(nm, n)]) (g := gName n) (tt := tYes) (te := fun σ H Q => ∀ s H0 C cl fp, teS (blkX X scope s H0 C cl fp) (.BinOp (.Subscript (.Name dn p1) (.Name nm p2) p3) .Add e2 p4) σ H Q) hc ndN (pi_keys (pe_var hNd hvd hdd hdc)) ok
    (fun s H C cl fp => pg_name (X := blkX X scope s H C cl fp) ndN hn (hL s H C cl fp).1 (hL s H C cl fp).2) (fun s H C cl fp => pts_nil) (fun s H C cl fp => ⟨fun pins s0 σ H1 Q I h => h s H C cl fp pins s0 I⟩) hs)) ?_
  refine ⟨d, .dT ws, hd, trivial, fun od => ?_⟩
  refine ⟨_, hσd, d, od, rfl, .inr ⟨ws, upd_same, fun D0 hD0 => ?_⟩⟩
  have hne : D0 ≠ d := fun z => by rw [z, upd_same] at hD0; cases hD0
  have hD : H D0 = none := by rw [upd_ne hne] at hD0; exact hD0
  refine ⟨fun i m H' => m = xs.length - i ∧ i ≤ xs.length ∧ H' = upd (upd H d (.frz od (.dT ws))) D0 (.lst ((xs.take i).map fun v => V.int (en v + g v))), ⟨_, rfl, Nat.zero_le _, by simp⟩, ?_⟩
  rintro i m H3 ⟨rfl, hi, rfl⟩
  have hfr : ∀ l, upd (upd H d (.frz od (.dT ws))) D0 l d = some (.frz od (.dT ws)) := fun l => by rw [upd_ne (Ne.symm hne), upd_same]
  by_cases hlt : i < xs.length
  · refine .inr ⟨⟨hfr _, by omega⟩, fun H' => H' = upd (upd H d (.frz od (.dT ws))) D0 (.lst ((xs.take (i + 1)).map fun v => V.int (en v + g v))), fun H' e => ⟨xs.length - (i + 1), by omega, rfl, hlt, e⟩, ?_⟩
    rintro x H' ⟨rfl, ks, v, b, hk, rfl, hb⟩
    have hks : ks = vkey xs[i] := by
      have h1 : (ws.map (·.1))[i]? = some ks := by rw [List.getElem?_map, hk]; rfl
      rw [hkk, List.getElem?_map, List.getElem?_eq_getElem hlt] at h1
      exact (Option.some.inj h1).symm
    subst hks
    have hxi : xs[i] ∈ xs := List.getElem_mem hlt
    have hwp : wipe ((wipe σ [n]).set n (some (.ref b))) [n] = wipe σ [n] := by rw [wipe_one, wipe_one, List.set_set, List.set_set]
    refine ⟨hwp, ?_⟩
    unfold tYes
    dsimp only
    rw [if_pos rfl]
    intro sB HB C cl fp
    have hσ2n : ((wipe σ [n]).set n (some (.ref b)))[n]? = some (some (.ref b)) := by
      rw [wipe_one, List.set_set, List.getElem?_set_self hnσ]
    have hσ2 : ∀ j, j ≠ n → ((wipe σ [n]).set n (some (V.ref b)))[j]? = σ[j]? := fun j hj => by
      rw [wipe_one, List.set_set, List.getElem?_set_ne (Ne.symm hj)]
    refine te_of (pe_op op_add (pe_dget hu (pe_var hNd (hvb sB HB C cl fp) hdd hdc) (pe_var hn (hvn sB HB C cl fp) hnd hnc) (fun _ _ => rfl)) peS) ?_
    refine ⟨_, (hσ2 nd hndn).trans hσd, _, hσ2n, d, .int (en xs[i]), rfl, .inr ⟨ws, vkey xs[i], b, .inr ⟨od, hfr _⟩, rfl, hb, ?_⟩, ?_⟩
    · rcases dk.dget (ks := vkey xs[i]) with ⟨z, _⟩ | ⟨u, dd, z1, z2, z3⟩
      · rw [hget _ hxi] at z; cases z
      · rw [hget _ hxi] at z2
        cases z2
        cases z3
        exact z1.symm
    · refine he2 c τ σ H s sB HB C cl fp _ _ b xs[i] hxi hσ2 hσ2n hb (fun a o e no => ?_) _ ?_
      · have h1 : a ≠ D0 := fun z => by rw [z, hD] at e; cases e
        have h2 : a ≠ d := fun z => by rw [z, hd] at e; cases e; exact no ws rfl
        rw [upd_ne h1, upd_ne h2]; exact e
      · refine ⟨_, _, rfl, rfl, _, upd_same, ?_, ?_⟩
        · rw [List.length_map, List.length_take, sizeLine_eq]; omega
        · rw [upd_upd, List.take_succ_eq_append_getElem hlt, List.map_append]
          rfl
  · have e : i = xs.length := by omega
    subst e
    refine .inl ⟨⟨hfr _, by omega⟩, hfr _, ?_⟩
    rw [List.take_length, upd_back hd hne]
    refine q _ _ (s.new hD fun G _ => .lst upd_same ?_)
    have := Owns.of_ds (K := X.K) (G := G) (H := upd H D0 (.lst (xs.map fun v => V.int (en v + g v)))) (Drs.of_ints (K := X.K) (G := G) (ns := xs.map fun v => en v + g v))
    rw [List.map_map, List.map_map, List.map_map] at this
    exact this
end
end DL
namespace DL
open PySem PySem.Spec PyProof.Rows L2
section
variable {X : Cx} {W : WX} {ρ : Rho} {Φ : Ph} {iter : Expr}
theorem lcO_tail {α : Type} {xs : List α} {enc : α → D} {elt : Expr} {ifs : List Expr} {scope : Scope} {g : α → Option T} (n : Nat) (hρ : ρ[n]? = some none)
    (he : ∀ s H C cl fp x, x ∈ xs → (∃ b, Ts (blkX X scope s H C cl fp) (ρ.set n (some (.d (enc x)))) ifs b ∧ (b = false → g x = none) ∧ (b = true → ∃ t, g x = some t ∧ E (blkX X scope s H C cl fp) (ρ.set n (some (.d (enc x)))) elt (.tm t))))
    (hz : xs.length ≤ 1000000) {c : Cst} {τ tmp : List (V × R)} {σ : L2.St} {H H1 : Hp} {J : It} (wk : WalksAt X.K ρ tmp J (xs.map enc)) (s1 : St X.K c ρ (tmp ++ τ) σ H1) {Q : VK} (q : ∀ v H', St X.K c ρ ((v, .tm (.lst (xs.filterMap g))) :: τ) σ H' → Q v H') :
    tLc (fun _ _ R => R J H1) (gName n) (fun σ H Q => ∀ s H0 C cl fp, tpS (blkX X scope s H0 C cl fp) ifs σ H Q) (fun σ H Q => ∀ s H0 C cl fp, teS (blkX X scope s H0 C cl fp) elt σ H Q) [n] σ H Q := by
  refine fun D0 hD => ?_
  have s2 : St X.K c ρ (tmp ++ (.ref D0, .tm (.lst [])) :: τ) σ (upd H1 D0 (.lst [])) := (s1.new hD fun G _ => .lst upd_same .nil).perm List.perm_middle.symm
  refine ⟨fun i m H => m = xs.length - i ∧ i ≤ xs.length ∧ St X.K c ρ (tmp ++ (.ref D0, .tm (.lst ((xs.take i).filterMap g))) :: τ) σ H, ⟨_, rfl, Nat.zero_le _, by simpa using s2⟩, ?_⟩
  rintro i m H3 ⟨rfl, hi', s3⟩
  by_cases hlt : i < xs.length
  · obtain ⟨go, yl⟩ := (wk c _ σ H3 s3).1 i (enc xs[i]) (by rw [List.getElem?_map, List.getElem?_eq_getElem hlt]; rfl)
    refine .inr ⟨go, fun H' => St X.K c ρ (tmp ++ (.ref D0, .tm (.lst ((xs.take (i + 1)).filterMap g))) :: τ) σ H', fun H' s' => ⟨xs.length - (i + 1), by omega, rfl, hlt, s'⟩, fun v H4 y => ?_⟩
    have tk : (xs.take (i + 1)).filterMap g = (xs.take i).filterMap g ++ (g xs[i]).toList := by
      rw [List.take_succ_eq_append_getElem hlt, List.filterMap_append]
      congr 1
    have hwp : wipe ((wipe σ [n]).set n (some v)) [n] = wipe σ [n] := by rw [wipe_one, wipe_one, List.set_set, List.set_set]
    have s4 : St X.K c (ρ.set n (some (.d (enc xs[i])))) (tmp ++ (.ref D0, .tm (.lst ((xs.take i).filterMap g))) :: τ) ((wipe σ [n]).set n (some v)) H4 := (((yl v H4 y).any (x := none) hρ)).storeP hρ
    have ret : ∀ H, St X.K c (ρ.set n (some (.d (enc xs[i])))) (tmp ++ (.ref D0, .tm (.lst ((xs.take (i + 1)).filterMap g))) :: τ) ((wipe σ [n]).set n (some v)) H → St X.K c ρ (tmp ++ (.ref D0, .tm (.lst ((xs.take (i + 1)).filterMap g))) :: τ) σ H := fun H s5 => by
      have hnσ : n < σ.length := by
        have := (List.getElem?_eq_some_iff.mp hρ).1
        rw [s1.len] at this; exact this
      have hz : ∀ q ∈ (tmp ++ (.ref D0, .tm (.lst ((xs.take (i + 1)).filterMap g))) :: τ : List (V × R)), ∀ p, q.2 ≠ .pl n p := fun q hq => by
        rcases List.mem_append.mp hq with h1 | h1
        · exact s3.noPl hρ q (List.mem_append_left _ h1)
        · rcases List.mem_cons.mp h1 with h1 | h1
          · subst h1; exact fun p e => nomatch e
          · exact s3.noPl hρ q (List.mem_append_right _ (List.mem_cons_of_mem _ h1))
      have s6 := s5.back (x := σ[n]) hρ hz
      have e : ((wipe σ [n]).set n (some v)).set n σ[n] = σ := by rw [wipe_one, List.set_set, List.set_set, List.set_getElem_self]
      rw [e] at s6
      exact s6
    have hx : xs[i] ∈ xs := List.getElem_mem hlt
    refine ⟨hwp, fun s H0 C cl fp => ?_⟩
    obtain ⟨b, hT, hno, hyes⟩ := he s H0 C cl fp _ hx
    refine hT c _ _ H4 s4 _ fun H5 s5 => ?_
    cases b with
    | false =>
      rw [hno rfl] at tk
      rw [if_neg Bool.false_ne_true]
      refine ret H5 ?_
      rw [tk]
      simpa using s5
    | true =>
      rw [if_pos rfl]
      obtain ⟨t, hg, _⟩ := hyes rfl
      rw [hg] at tk
      intro s' H0' C' cl' fp'
      obtain ⟨b', _, hno', hyes'⟩ := he s' H0' C' cl' fp' _ hx
      have hb' : b' = true := by
        cases b' with
        | true => rfl
        | false => have := hno' rfl; rw [hg] at this; cases this
      obtain ⟨t', hg', hE⟩ := hyes' hb'
      rw [hg] at hg'
      cases hg'
      refine hE c _ _ H5 s5 _ fun y H6 s6 => ?_
      have s7 : St X.K c (ρ.set n (some (.d (enc xs[i])))) ((y, .tm t) :: (.ref D0, .tm (.lst ((xs.take i).filterMap g))) :: (tmp ++ τ)) ((wipe σ [n]).set n (some v)) H6 := s6.perm (List.Perm.cons _ List.perm_middle)
      obtain ⟨acc, a1, a2, s8⟩ := s7.grow
      refine ⟨acc, a1, ?_, ret _ ?_⟩
      · have h1 : ((xs.take i).filterMap g).length ≤ (xs.take i).length := List.length_filterMap_le _ _
        have h2 : (xs.take i).length ≤ xs.length := by rw [List.length_take]; omega
        have h3 := sizeLine_eq
        omega
      · rw [tk]
        exact s8.perm List.perm_middle.symm
  · have e : i = xs.length := by omega
    subst e
    have z := (wk c _ σ H3 s3).2
    rw [List.length_map] at z
    refine .inl ⟨z, q _ _ ?_⟩
    rw [List.take_length] at s3
    exact s3.dropN
theorem lcR_sem {α : Type} {Px : List α → Prop} {enc : α → D} {elt : Expr} {ifs : List Expr} {scope : Scope} {nm : Str} {pos' : Pos} {g : α → Option T} (n : Nat) (hi : ER X ρ iter fun t => ∃ xs, Px xs ∧ t.toD = .lst (xs.map enc)) (hρ : ρ[n]? = some none)
    (he : ∀ xs, Px xs → ∀ s H C cl fp x, x ∈ xs → (∃ b, Ts (blkX X scope s H C cl fp) (ρ.set n (some (.d (enc x)))) ifs b ∧ (b = false → g x = none) ∧ (b = true → ∃ t, g x = some t ∧ E (blkX X scope s H C cl fp) (ρ.set n (some (.d (enc x)))) elt (.tm t))))
    (hz : ∀ xs, Px xs → xs.length ≤ 1000000) {c : Cst} {τ : List (V × R)} {σ : L2.St} {H : Hp} (s : St X.K c ρ τ σ H) {Q : VK} (q : ∀ xs, Px xs → ∀ v H', St X.K c ρ ((v, .tm (.lst (xs.filterMap g))) :: τ) σ H' → Q v H') :
    tLc (piS X (.Name nm pos') iter) (gName n) (fun σ H Q => ∀ s H0 C cl fp, tpS (blkX X scope s H0 C cl fp) ifs σ H Q) (fun σ H Q => ∀ s H0 C cl fp, teS (blkX X scope s H0 C cl fp) elt σ H Q) [n] σ H Q :=
  pi_of (pi_list peS) (er_fz hi c τ σ H s _ fun t ⟨t0, ⟨xs, px, e⟩, et⟩ v H1 s1 => by
    subst et
    rw [e] at s1
    obtain ⟨a, vs, e1, e2, e3⟩ := (s1.see (t := .d (.lst (xs.map enc))) rfl).is_lst
    subst e1
    refine ⟨a, rfl, ⟨vs, SqL.of e2⟩, lcO_tail (H := H) (tmp := [(.ref a, .tm (.d (.lst (xs.map enc))))]) (J := Itl X.K a) n hρ (he xs px) (hz xs px) (fun c τ σ H s => ⟨fun i x hx => ?_, ?_⟩) s1 (q xs px)⟩
    · obtain ⟨a', vs', f1, f2, f3⟩ := (s.see (t := .d (.lst (xs.map enc))) rfl).is_lst
      cases f1
      obtain ⟨u0, g1, _⟩ := f3.get hx
      refine ⟨⟨vs', u0, SqL.of f2, g1⟩, fun v' H' ⟨eH, y⟩ => ?_⟩
      subst eH
      have y1 := y vs' (SqL.of f2)
      rw [g1] at y1
      cases y1
      exact s.item hx f2 g1
    · obtain ⟨a', vs', f1, f2, f3⟩ := (s.see (t := .d (.lst (xs.map enc))) rfl).is_lst
      cases f1
      exact ⟨vs', SqL.of f2, Nat.le_of_eq f3.len⟩)
/-- y = [f for x in ..] on one line -/
theorem s_lcR {α : Type} {Px : List α → Prop} {enc : α → D} {elt : Expr} {scope : Scope} {k : Nat} {nm y : Str} {pos' py spos pos : Pos} {f : α → T} (m n : Nat) (Y : Bx X W k) (hi : ER X ρ iter fun t => ∃ xs, Px xs ∧ t.toD = .lst (xs.map enc)) (hρ : ρ[n]? = some none)
    (he : ∀ xs, Px xs → ∀ s H C cl fp x, x ∈ xs → E (blkX X scope s H C cl fp) (ρ.set n (some (.d (enc x)))) elt (.tm (f x)))
    (hz : ∀ xs, Px xs → xs.length ≤ 1000000) (h : ∀ xs, Px xs → Φ.nx (ρ.set m (some (.lst (xs.map f))))) (ok : BlkOk X.N X.env.scope scope [(nm, n)] := by exact blkOk_by (by first | decide +kernel | exact Eq.refl true)) (hn : X.N[n]? = some nm := by rfl)
    (hL : ∀ s H C cl fp, Loc (blkX X scope s H C cl fp).env.scope nm ∧ ((blkX X scope s H C cl fp).fn nm = true ∨ (blkX X scope s H C cl fp).env.scope.names.lookup nm = some .local) := by intro _ _ _ _ _; first | exact ⟨Or.inl rfl, Or.inr rfl⟩ | exact ⟨Or.inr rfl, Or.inl rfl⟩)
    (hs : ∀ x, foldedSetIterable iter X.env x = pure x := by intro _; rfl)
    (hm : Nat.ble (m + 1) ρ.length = true := by rfl) (hy : X.N[m]? = some y := by rfl) (hyl : X.env.scope.names.lookup y = some .local := by rfl) (hk : X.env.scope.kind = .function := by rfl) (hl : (py.line == pos.line) = true := by rfl) (ha : (scope.names.any fun (n, k) => n == y && (k == .local || k == .cell)) = false := by rfl) :
    S1 X W ρ (.Assign [.Name y py] (.ListComp elt [⟨.Name nm pos', iter, [], 0⟩] scope pos) spos) Φ := fun c τ σ H tm s D P =>
  ts_of (ps_setLc (own := [(nm, n)]) (g := gName n) (tt := fun σ H Q => ∀ s H0 C cl fp, tpS (blkX X scope s H0 C cl fp) [] σ H Q) (te := fun σ H Q => ∀ s H0 C cl fp, teS (blkX X scope s H0 C cl fp) elt σ H Q) Y.calm Y.nd hy hyl (sw_true hk hyl hl ha) piSS ok
    (fun s H C cl fp => pg_name (X := blkX X scope s H C cl fp) Y.nd hn (hL s H C cl fp).1 (hL s H C cl fp).2) (fun s H C cl fp => ⟨fun pins s0 σ H1 Q I h => h s H C cl fp pins s0 I⟩) (fun s H C cl fp => ⟨fun pins s0 σ H1 Q I h => h s H C cl fp pins s0 I⟩) hs)
    (lcR_sem (g := fun x => some (f x)) (Q := fun x H1 => gName m x σ H1 D.nx) n hi hρ (fun xs px s H C cl fp x hx => ⟨true, ts_nil, (fun h => by cases h), fun _ => ⟨_, rfl, he xs px s H C cl fp x hx⟩⟩) hz s fun xs px v H' s' => P.nx _ _ _ (h xs px) ((by rw [fm_map] at s'; exact s'.store (Nat.le_of_ble_eq_true hm) tm)))
end
end DL
namespace DL
open PySem PySem.Spec PyProof.Rows L2
/-- an exception of the class cls stands caught at s -/
def Held (X : Cx) (pins : List (Addr × Obj)) (ex : Addr) (cls : Value) (dd : Option Addr) (σ : L2.St) (H : Hp) (s : Shared) : Prop :=
  ∃ (gr : Heap) (old : Shared), Inv X pins σ H old ∧ (∀ q ob, old.heap.get? q = some ob → q ∉ frs X.stack → gr.get? q = some ob) ∧ old.heap.UpToSlots s.heap ∧ HandSPX.FlyingZ gr (X.env :: X.outer) ex (Zc cls dd) s.heap ∧ H ex = none ∧ s.os = old.os ∧ AllBare s.gens
/-- the clauses answer every exception of which w holds -/
def Cls2 (X : Cx) (D : Ends) (hds : List ExceptHandler) (w : WX) : Prop :=
  ∀ pins ex cls dd σ H s, Held X pins ex cls dd σ H s → w cls dd σ H → wpAny (model X.prog X.w) X.A (handleBy (.ref ex) X.env hds) (SP X pins D) X.xe s
section
variable {X : Cx} {pins : List (Addr × Obj)} {ex : Addr} {cls : Value} {dd : Option Addr} {σ : L2.St} {H : Hp} {s : Shared} {D : Ends}
theorem Held.inv (h : Held X pins ex cls dd σ H s) : Inv X pins σ H s := by
  obtain ⟨gr, old, i0, ground, slots, fly, _, sameOs, bare⟩ := h
  exact i0.landed ground fly.1 slots sameOs bare
theorem Held.upTo (h : Held X pins ex cls dd σ H s) {hp : Heap} (hq : ∀ gr, HandSPX.FlyingZ gr (X.env :: X.outer) ex (Zc cls dd) s.heap → HandSPX.FlyingZ gr (X.env :: X.outer) ex (Zc cls dd) hp) (u : s.heap.UpToSlots hp) : Held X pins ex cls dd σ H { s with heap := hp } := by
  obtain ⟨gr, old, i0, ground, slots, fly, free, sameOs, bare⟩ := h
  exact ⟨gr, old, i0, ground, slots.trans u, hq gr fly, free, sameOs, bare⟩
/-- within a suite -/
theorem Held.inSuite (h : Held X pins ex cls dd σ H s) (hf : X.env.frame = some X.env.locals) :
    ∃ (ob : Obj) (cells : Array Value), s.heap.get? ex = some ob ∧ Zc cls dd ob ∧ ob.data = .fields cells ∧ Inv (X.suite ex ((ex, ob) :: (X.pn ++ pins))) [] σ H s := by
  have i1 := h.inv
  obtain ⟨gr, old, _, _, _, fly, free, _, _⟩ := h
  obtain ⟨ob, cells, g1, g2, g3⟩ := fly.there
  have noFrame : ex ∉ frs (X.env :: X.outer) := fun m => by
    obtain ⟨_, ob', g1', g4⟩ := fly.2.2.1.mem m
    have eo : ob' = ob := Option.some.inj (g1'.symm.trans g1)
    exact g4 cells (eo ▸ g3)
  refine ⟨ob, cells, g1, g2, g3, i1.suite g1 g3 free (fun z => ?_) fun m => ?_⟩
  · exact noFrame (List.mem_filterMap.mpr ⟨X.env, List.mem_cons_self, hf.trans (congrArg some z.symm)⟩)
  · obtain ⟨env, menv, fenv⟩ := List.mem_filterMap.mp m
    exact noFrame (List.mem_filterMap.mpr ⟨env, List.mem_cons_of_mem _ menv, fenv⟩)
theorem Held.land2 {E : Value → Shared → Prop} {Q : Unit → Shared → Prop} (h : Held X pins ex cls dd σ H s) (q : ∀ s', Held X pins ex cls dd σ H s' → Q () s') : wpAny (model X.prog X.w) (X.A.mark (some (.ref ex))) (setFlight (.ref ex) none) Q E s := by
  obtain ⟨gr, old, i0, ground, slots, fly, free, sameOs, bare⟩ := h
  exact HandSPX.lands_againZ fly fun hp fly2 up2 => q _ ⟨gr, old, i0, ground, slots.trans up2, fly2, free, sameOs, bare⟩
/-- no clause is left -/
theorem cls2_nil {W : WX} (st : X.stack = X.env :: X.outer) (hf : X.env.frame = some X.env.locals) (tk : Takes X W) : Cls2 X D [] W := by
  intro pins ex cls dd σ H s held w
  obtain ⟨gr, old, i0, ground, slots, fly, free, sameOs, bare⟩ := held
  have onward : wpAny (model X.prog X.w) X.A (setFlight (.ref ex) X.env.frame) (fun _ z => wpAny (model X.prog X.w) X.A (throw (.ref ex) : Sem Flow) (SP X pins D) X.xe z) X.xe s := by
    rw [hf]
    refine HandSPX.setFlight_upZ fly fun hp heldOn up2 => wpAny_throw (tk _ _ ⟨ex, gr, old, pins, σ, H, cls, dd, rfl, i0, ground, slots.trans up2, ?_, free, sameOs, bare, w⟩)
    rw [st]
    exact .inr (.inr heldOn)
  have fl := fly
  obtain ⟨_, _, _, ob, cells, tr, otr, tcells, g1, _, g3, g4, _⟩ := fl
  refine wpAny_handleBy_nil ?_
  unfold PySem.passOn
  refine wpAny_bind (wpAny_field g1 g3 g4 ?_)
  have nn : ¬ (Value.ref tr == Value.none) = true := by simp
  rw [if_neg nn]
  first
    | exact wpAny_bind (wpAny_pure (wpAny_bind onward))
    | exact wpAny_bind onward
/-- the name in a clause -/
theorem namesLoad {x : Str} {c : Value} {np : Pos} (hc : Names X x c) {ob : Obj} {pn : List (Addr × Obj)} (i2 : Inv (X.suite ex ((ex, ob) :: pn)) [] σ H s) {Q E : Value → Shared → Prop} (q : Q c s) : wpAny (model X.prog X.w) (X.A.mark (some (.ref ex))) (eval (.Name x np) X.env) Q E s := by
  rcases hc with ⟨g, db, own | ⟨no, boot, nn⟩⟩
  · exact ld_glob (X := X.suite ex ((ex, ob) :: pn)) i2 g own q db
  · exact ld_blt (X := X.suite ex ((ex, ob) :: pn)) i2 g no boot q nn db
/-- one more nameless clause -/
theorem cls2_plain {x : Str} {c : Value} {ts : Addr → Value → Option Addr → TS} {b₀ : Stmt} {more : List Stmt} {np pos' : Pos} {rest : List ExceptHandler} {w : WX} (hf : X.env.frame = some X.env.locals) (hc : Names X x c)
    (run : ∀ (q : Addr) (ob : Obj) (k : Value) (d2 : Option Addr) (pn : List (Addr × Obj)), Zc k d2 ob → (∃ vs, ob.data = .fields vs) → PSs (X.suite q ((q, ob) :: pn)) (b₀ :: more) (ts q k d2)) (nxt : Cls2 X D rest w) :
    Cls2 X D (.ExceptHandler (some (.Name x np)) none (b₀ :: more) pos' :: rest) (fun k d2 σ H => ∃ b, PySem.W.exmOne X.K k c = some b ∧ (b = true → ∀ q, H q = none → ts q k d2 D σ H) ∧ (b = false → w k d2 σ H)) := by
  intro pins ex cls dd σ H s held ⟨b, eb, yes, no⟩
  obtain ⟨ob, cells, g1, g2, g3, i2⟩ := held.inSuite hf
  have hasCls : PySem.W.Looks (model X.prog X.w) s.heap (typeOf (.ref ex)) cls := fun A Q E z k q => wpAny_typeOf_ref (k _ _ g1) (by rw [g2.1]; exact q)
  refine wpAny_handleBy_cons (codeAny_handlers_test (namesLoad hc i2 ((PySem.W.exm_one (M := model X.prog X.w) held.inv.kIn hasCls eb).here ?_))) (by intro z; cases z)
  cases b with
  | false => exact nxt pins ex cls dd σ H s held (no rfl)
  | true =>
    refine codeAny_handlers_suite (held.land2 fun s2 held2 => ?_)
    have free : H ex = none := (match held2 with | ⟨_, _, _, _, _, _, f0, _, _⟩ => f0)
    obtain ⟨ob2, cells2, k1, k2, k3, i3⟩ := held2.inSuite hf
    have stand : X.Ok := held.inv.ok
    refine wpAny_mono ((run ex ob2 cls dd (X.pn ++ pins) k2 ⟨cells2, k3⟩).run [] s2 σ H D i3 (yes rfl ex free)) (fun f s6 e6 => ?_) (fun _ _ z => False.elim z)
    cases f with
    | ret u => obtain ⟨v6, σ6, H6, i6, r6, d6⟩ := e6; exact ⟨v6, σ6, H6, i6.unsuite stand, r6, d6⟩
    | next => obtain ⟨σ6, H6, i6, d6⟩ := e6; exact ⟨σ6, H6, i6.unsuite stand, d6⟩
    | brk => obtain ⟨σ6, H6, i6, d6⟩ := e6; exact ⟨σ6, H6, i6.unsuite stand, d6⟩
    | cont => obtain ⟨σ6, H6, i6, d6⟩ := e6; exact ⟨σ6, H6, i6.unsuite stand, d6⟩
/-- one more named clause -/
theorem cls2_named {i : Nat} {x n : Str} {c : Value} {ts : Addr → Value → Option Addr → TS} {b₀ : Stmt} {more : List Stmt} {np pos' : Pos} {rest : List ExceptHandler} {w : WX} (hf : X.env.frame = some X.env.locals) (nd : X.N.Nodup) (hi : X.N[i]? = some n) (hn : X.env.kindOf n = some .local) (hc : Names X x c)
    (run : ∀ (q : Addr) (ob : Obj) (k : Value) (d2 : Option Addr) (pn : List (Addr × Obj)), Zc k d2 ob → (∃ vs, ob.data = .fields vs) → PSs (X.suite q ((q, ob) :: pn)) (b₀ :: more) (ts q k d2)) (nxt : Cls2 X D rest w) :
    Cls2 X D (.ExceptHandler (some (.Name x np)) (some n) (b₀ :: more) pos' :: rest) (fun k d2 σ H => ∃ b, PySem.W.exmOne X.K k c = some b ∧ (b = true → ∀ q, H q = none → ts q k d2 { nx := fun σ' H' => D.nx (σ'.set i none) H', rt := D.rt, bk := fun σ' H' => D.bk (σ'.set i none) H', ct := fun σ' H' => D.ct (σ'.set i none) H' } (σ.set i (some (.ref q))) H) ∧ (b = false → w k d2 σ H)) := by
  intro pins ex cls dd σ H s held ⟨b, eb, yes, no⟩
  obtain ⟨ob, cells, g1, g2, g3, i2⟩ := held.inSuite hf
  have hasCls : PySem.W.Looks (model X.prog X.w) s.heap (typeOf (.ref ex)) cls := fun A Q E z k q => wpAny_typeOf_ref (k _ _ g1) (by rw [g2.1]; exact q)
  refine wpAny_handleBy_cons (codeAny_handlers_test (namesLoad hc i2 ((PySem.W.exm_one (M := model X.prog X.w) held.inv.kIn hasCls eb).here ?_))) (by intro z; cases z)
  cases b with
  | false => exact nxt pins ex cls dd σ H s held (no rfl)
  | true =>
    refine codeAny_handlers_suite_as (held.land2 fun s2 held2 => ?_)
    have free : H ex = none := (match held2 with | ⟨_, _, _, _, _, _, f0, _, _⟩ => f0)
    obtain ⟨ob2, cells2, k1, k2, k3, i3⟩ := held2.inSuite hf
    have stand : X.Ok := held.inv.ok
    refine store_ok (X := X.suite ex ((ex, ob2) :: (X.pn ++ pins))) (v := .ref ex) i3 nd hi (.inl hn) rfl (fun s4 i4 => ?_) (.inr hn)
    refine wpAny_mono ((run ex ob2 cls dd (X.pn ++ pins) k2 ⟨cells2, k3⟩).run [] s4 _ H _ i4 (yes rfl ex free)) (fun f s6 e6 => ?_) (fun _ _ z => False.elim z)
    cases f with
    | ret u => obtain ⟨v6, σ6, H6, i6, r6, d6⟩ := e6; exact gone_ok (i6.unsuite stand) nd hi hn fun s7 i7 => ⟨v6, _, H6, i7, r6, d6⟩
    | next => obtain ⟨σ6, H6, i6, d6⟩ := e6; exact gone_ok (i6.unsuite stand) nd hi hn fun s7 i7 => ⟨_, H6, i7, d6⟩
    | brk => obtain ⟨σ6, H6, i6, d6⟩ := e6; exact gone_ok (i6.unsuite stand) nd hi hn fun s7 i7 => ⟨_, H6, i7, d6⟩
    | cont => obtain ⟨σ6, H6, i6, d6⟩ := e6; exact gone_ok (i6.unsuite stand) nd hi hn fun s7 i7 => ⟨_, H6, i7, d6⟩
/-- the whole statement -/
theorem ps_try_cls2 {h₀ : ExceptHandler} {hds : List ExceptHandler} {body : List Stmt} {tb : WX → TS} {w : Ends → WX} {pos : Pos} (st : X.stack = X.env :: X.outer) (hf : X.env.frame = some X.env.locals)
    (runs : ∀ (W : WX) (pn : List (Addr × Obj)) (xe : Value → Shared → Prop), Takes (X.tr pn xe) W → PassesOwn (model X.prog X.w) X.A X.env xe → PSs (X.tr pn xe) body (tb W)) (ch : ∀ D, Cls2 X D (h₀ :: hds) (w D)) :
    PS X (.Try body (h₀ :: hds) [] [] pos) (fun D σ H => tb (w D) D σ H) := by
  constructor
  intro pins s σ H D i0 go
  have stand : X.Ok := i0.ok
  have stk : X.A.frames = some (X.env :: X.outer) := stand.frames.trans (congrArg some st)
  have tries := runs (w D) (X.pn ++ pins) (fun e s₁ => wpAny (model X.prog X.w) X.A (noteFrame e X.env) (fun _ s₂ => wpAny (model X.prog X.w) X.A (setFlight e none) (fun _ s₃ => wpAny (model X.prog X.w) X.A (handleBy e X.env (h₀ :: hds)) (SP X pins D) X.xe s₃) X.xe s₂) X.xe s₁) (fun u z air => by
    obtain ⟨ex, gr, old, pins2, σ2, H2, cls, dd, rfl, i1, ground, slots, sky, free, sameOs, bare, wish⟩ := air
    have i2 : Inv X pins σ2 H2 old := i1.ofTry stand
    have sky2 : Sky gr (X.env :: X.outer) ex (Zc cls dd) X.env.locals z.heap := st ▸ sky
    exact Sky.land Zc.steady stk hf sky2 fun hp fly up2 => ch D pins ex cls dd σ2 H2 _ ⟨gr, old, i2, ground, slots.trans up2, fly, free, sameOs, bare⟩ wish) PassesOwn.looking
  refine wpAny_Try_except (wpAny_mono (tries.run [] s σ H D (i0.toTry _) go) (fun f s1 e1 => ?_) fun e s1 z => z)
  cases f with
  | ret u => obtain ⟨v1, σ1, H1, i1, r1, d1⟩ := e1; exact ⟨v1, σ1, H1, i1.ofTry stand, r1, d1⟩
  | next => obtain ⟨σ1, H1, i1, d1⟩ := e1; exact wpAny_execs_nil ⟨σ1, H1, i1.ofTry stand, d1⟩
  | brk => obtain ⟨σ1, H1, i1, d1⟩ := e1; exact ⟨σ1, H1, i1.ofTry stand, d1⟩
  | cont => obtain ⟨σ1, H1, i1, d1⟩ := e1; exact ⟨σ1, H1, i1.ofTry stand, d1⟩
end
section
variable {X : Cx} {W : WX} {ρ : Rho} {Φ : Ph} {k : Nat}
/-- try: .. except x1: .. except x2 as n: .. -/
theorem s_tryTwo {x1 x2 n : Str} {c1 c2 : Value} {Xb : Value → Rho → Prop} {body more1 more2 : List Stmt} {b1 b2 : Stmt} {np1 np2 p1 p2 pos : Pos} (i : Nat) (Y : Bx X W k) (h1 : Names X x1 c1) (h2 : Names X x2 c2)
    (hb : ∀ W' pn xe, Bx (X.tr pn xe) W' k → DL.S (X.tr pn xe) W' ρ body { Φ with ex := Xb })
    (hx : ∀ cls ρ', Xb cls ρ' → i < ρ'.length ∧ ((PySem.W.exmOne X.K cls c1 = some true ∧ ∀ a oe pn, DL.S (X.suite a ((a, oe) :: pn)) (fun _ _ _ _ => False) ρ' (b1 :: more1) { Φ with ex := fun _ _ => False }) ∨
      (PySem.W.exmOne X.K cls c1 = some false ∧ PySem.W.exmOne X.K cls c2 = some true ∧ ∀ a oe pn, Zc cls none oe → (∃ vs, oe.data = .fields vs) → DL.S (X.suite a ((a, oe) :: pn)) (fun _ _ _ _ => False) (ρ'.set i (some (.d (.adr a)))) (b2 :: more2) { nx := fun ρ'' => Φ.nx (ρ''.set i none), rt := Φ.rt, bk := fun ρ'' => Φ.bk (ρ''.set i none), ct := fun ρ'' => Φ.ct (ρ''.set i none) })))
    (hst : X.stack = X.env :: X.outer := by rfl) (hfr : X.env.frame = some X.env.locals := by rfl) (hi : X.N[i]? = some n := by rfl) (hln : X.env.kindOf n = some .local := by rfl) :
    S1 X W ρ (.Try body [.ExceptHandler (some (.Name x1 np1)) none (b1 :: more1) p1, .ExceptHandler (some (.Name x2 np2)) (some n) (b2 :: more2) p2] [] [] pos) Φ := fun c τ σ H tm s D P => by
  refine ts_of (ps_try_cls2 (tb := fun W' D σ H => ∀ pn xe, L2.Takes (X.tr pn xe) W' → PassesOwn (model X.prog X.w) X.A X.env xe → tbS (X.tr pn xe) body D σ H)
    (w := fun D cls d2 σ H => ∃ b, PySem.W.exmOne X.K cls c1 = some b ∧ (b = true → ∀ q, H q = none → ∀ oe pn, L2.Zc cls d2 oe → (∃ vs, oe.data = .fields vs) → tbS (X.suite q ((q, oe) :: pn)) (b1 :: more1) D σ H) ∧ (b = false → ∃ b', PySem.W.exmOne X.K cls c2 = some b' ∧ (b' = true → ∀ q, H q = none → ∀ oe pn, L2.Zc cls d2 oe → (∃ vs, oe.data = .fields vs) → tbS (X.suite q ((q, oe) :: pn)) (b2 :: more2) { nx := fun σ' H' => D.nx (σ'.set i none) H', rt := D.rt, bk := fun σ' H' => D.bk (σ'.set i none) H', ct := fun σ' H' => D.ct (σ'.set i none) H' } (σ.set i (some (.ref q))) H) ∧ (b' = false → W cls d2 σ H)))
    hst hfr (fun W' pn xe tk ps => ⟨fun pins s0 σ H D I h => h pn xe tk ps pins s0 I⟩)
    (fun D => cls2_plain (ts := fun a cls d D σ H => ∀ oe pn, L2.Zc cls d oe → (∃ vs, oe.data = .fields vs) → tbS (X.suite a ((a, oe) :: pn)) (b1 :: more1) D σ H) hfr h1 (fun a oe cls d pn hz hf => ⟨fun pins s0 σ H D I h => h oe pn hz hf pins s0 I⟩)
      (cls2_named (ts := fun a cls d D σ H => ∀ oe pn, L2.Zc cls d oe → (∃ vs, oe.data = .fields vs) → tbS (X.suite a ((a, oe) :: pn)) (b2 :: more2) D σ H) hfr Y.nd hi hln h2 (fun a oe cls d pn hz hf => ⟨fun pins s0 σ H D I h => h oe pn hz hf pins s0 I⟩) (cls2_nil hst hfr Y.takes)))) ?_
  intro pn xe tk ps
  refine hb _ pn xe ⟨Y.calm, Y.nd, tk, ps, Y.room⟩ c τ σ H tm s D ⟨P.nx, P.rt, P.bk, P.ct, fun cls ρ' σ' H' q s' => ?_⟩
  obtain ⟨hl, ⟨e1, g⟩ | ⟨e1, e2, g⟩⟩ := hx cls ρ' q
  · exact ⟨true, e1, fun _ a na oe pn' hz hf => g a oe pn' c τ σ' H' tm s' D ⟨P.nx, P.rt, P.bk, P.ct, fun _ _ _ _ z => z.elim⟩, fun z => by cases z⟩
  · refine ⟨false, e1, fun z => (by cases z), fun _ => ⟨true, e2, fun _ a na oe pn' hz hf => ?_, fun z => by cases z⟩⟩
    have s1 : St X.K c (ρ'.set i (some (.d (.adr a)))) τ (σ'.set i (some (.ref a))) H' := (s'.push (v := .ref a) (x := .adr a) fun _ => .adr a).store hl tm
    exact g a oe pn' hz hf c τ _ H' tm s1 _ ⟨fun ρ4 σ4 H4 q s4 => P.nx _ _ _ q (s4.forget tm), fun t ρ4 v σ4 H4 q s4 => P.rt t ρ4 v σ4 H4 q s4, fun ρ4 σ4 H4 q s4 => P.bk _ _ _ q (s4.forget tm), fun ρ4 σ4 H4 q s4 => P.ct _ _ _ q (s4.forget tm), fun _ _ _ _ z => z.elim⟩
end
end DL
namespace DL
open PySem PySem.Spec PyProof.Rows L2
structure FnS (P : Program) (w : World) (K : PySem.W.Frag) (mg : Str → Option Value) (base : Heap) (k : Nat) (f : Addr) (fd : FuncData) (ps : List Str) (sp : Addr × Obj → Sp) : Prop where
  arity : ∀ p vs H Q E, sp p vs H Q E → vs.length = ps.length
  go : ∀ (A : Around) (outer : List Env) (s : Shared) (H : Hp) (args : Args) (us : List Value) (vs : List V) (Q : VK) (E : XK) (p : Addr × Obj), L2H.RoomH k A → L2H.PinOk outer H s p → Env0 P w K mg base A outer s H → BindsTo s fd args (ps.zip us) → Vals vs us → sp p vs H Q E →
    codeAny (model P w) A (.call (.ref f) args) (CR (L2.CX P w) outer P w H s Q E) s
section
variable {P : Program} {w : World} {K : PySem.W.Frag} {mg : Str → Option Value} {base : Heap}
theorem fns_of {x qual : Str} {st : Stmt} {f : Addr} {fd : FuncData} {N ps : List Str} {k : Nat} {sp : Addr × Obj → Sp} (F : Fun K x qual st f fd) (Sc : FnScope N ps (defScope st)) (arity : ∀ p vs H Q E, sp p vs H Q E → vs.length = ps.length)
    (body : ∀ (cdv : Value) (A : Around) (outer : List Env) (s : Shared) (H : Hp) (vs : List V) (Q : VK) (E : XK) (p : Addr × Obj), sp p vs H Q E →
      ∃ t, PSs (L2H.cxH (L2.CX P w) P w K mg base N qual (defScope st) f cdv A outer s H E p) (defBody st) t ∧ t { nx := fun _ H' => Q .non H', rt := Q } (L2.start N vs) H) : FnS P w K mg base (k + 1) f fd ps sp := by
  obtain ⟨oc, od, kV, doc, pm, an, cdv, ct, osl, rfl, look, isCode⟩ := F.ex
  constructor
  · exact arity
  intro A outer s H args us vs Q E p room pinned e0 binds rel wish
  have many := arity _ _ _ _ _ wish
  have kin : K.In s.heap := e0.mod.kin.keeps fun q ob m => (e0.bs q ob m).1
  have free := e0.mod.nolimit.keeps fun q ob m => (e0.bs q ob m).1
  have sorts : ∀ y ∈ ps.zip us, (defScope st).names.lookup y.1 = some .local ∨ ((defScope st).names.lookup y.1 = some .cell ∧ ((cellsFrom (s.heap.objs.size + 1) (defScope st).names []).lookup y.1).isSome = true) := by
    rintro ⟨nm, val⟩ hy
    cases Sc.par nm (List.of_mem_zip hy).1 with
    | inl z => exact .inl z
    | inr z => exact .inr ⟨z, PySem.W.cellsFrom_some _ _ _ (.inl z)⟩
  refine codeAny_call_function room.depth (kin _ _ look) rfl Sc.co Sc.gen rfl (PySem.W.codeRec_of kin isCode) (binds _ _ _ _ (wpAny_newFunctionEnv_cells Sc.kind sorts fun env env_eq s1 ic => ?_))
  subst env_eq
  obtain ⟨t, ht, start⟩ := body cdv A outer s H vs Q E p wish
  have i1 := L2H.inv_startH (CX := L2.CX P w) (E := E) Sc pinned e0 many rel ic
  refine ⟨free.keeps ic.toInCall.keep, codeAny_func (wpAny_mono (ht.run [] s1 (L2.start N vs) H _ i1 start) (fun fl z hz => ?_) fun e z hz => hz)⟩
  cases fl with
  | ret u => obtain ⟨v2, σ2, H2, i2, r2, q2⟩ := hz; exact ⟨v2, H2, i2.os, i2.bare, i2.base, i2.hok, r2, q2⟩
  | next => obtain ⟨σ2, H2, i2, q2⟩ := hz; exact ⟨V.non, H2, i2.os, i2.bare, i2.base, i2.hok, rfl, q2⟩
  | brk => obtain ⟨_, _, _, q2⟩ := hz; exact q2.elim
  | cont => obtain ⟨_, _, _, q2⟩ := hz; exact q2.elim
/-- it answers t wherever pre holds of the exception -/
def SpP (K : PySem.W.Frag) (pre : Addr × Obj → Prop) (t : T) : Addr × Obj → Sp := fun p vs H Q _ => ∃ G, Same G H ∧ vs = [.ref p.1] ∧ pre p ∧
  ∀ v H' G' fp, Aft G H G' H' → Own K G' H' v t fp → fp.Nodup → (∀ a ∈ fp, G' a = none ∧ H a = none) → Q v H'
def KnP (P : Program) (w : World) (K : PySem.W.Frag) (mg : Str → Option Value) (base : Heap) (nm : Str) (k : Nat) (pre : Addr × Obj → Prop) (t : T) : Prop :=
  ∃ (f : Addr) (fd : FuncData) (ps : List Str), FnS P w K mg base k f fd ps (SpP K pre t) ∧ mg nm = some (.ref f) ∧ PySem.W.keepIn K (.ref f) = true ∧ Binds K fd ps []
theorem knp_of {x qual : Str} {st : Stmt} {f : Addr} {fd : FuncData} {N : List Str} {a0 : Str} {k : Nat} {pre : Addr × Obj → Prop} {t : T} (F : Fun K x qual st f fd) (hm : mg x = some (.ref f)) (hb : Binds K fd [a0] []) (Sc : FnScope N [a0] (defScope st))
    (body : ∀ (cdv : Value) (A : Around) (outer : List Env) (s : Shared) (H : Hp) (E : XK) (p : Addr × Obj), pre p →
      DL.S (L2H.cxH (L2.CX P w) P w K mg base N qual (defScope st) f cdv A outer s H E p) (fun _ _ _ _ => False) (rho0 N [.adr p.1]) (defBody st) ⟨fun _ => False, fun u _ => u = t, fun _ => False, fun _ => False, fun _ _ => False⟩) :
    KnP P w K mg base x (k + 1) pre t := by
  refine ⟨f, fd, [a0], fns_of F Sc (fun p vs H Q E h => ?_) (fun cdv A outer s H vs Q E p h => ?_), hm, F.kp, hb⟩
  · obtain ⟨G, _, rfl, _⟩ := h
    rfl
  · obtain ⟨G, sb, rfl, pr, hQ⟩ := h
    refine ⟨tbS _ (defBody st), pbS, body cdv A outer s H E p pr ⟨H, G, []⟩ [] _ H TmOnly.nil ?_ _ ⟨fun _ _ _ q => q.elim, fun u ρ v σ' H' q s' => ?_, fun _ _ _ q => q.elim, fun _ _ _ q => q.elim, fun _ _ _ _ q => q.elim⟩⟩
    · refine ⟨G, [], [], ⟨sb, Same.refl _, fun a o q => .inl ⟨o, q⟩, fun a o q _ => q, fun a o q => ⟨o, q⟩, List.nodup_nil, fun a m => nomatch m⟩, ?_, .nil⟩
      exact slots_start (K := K) (G := G) (H := H) (m := N.length - 1) (vs := [.ref p.1]) (ds := [.adr p.1]) (.cons (.adr p.1) .nil)
    · subst q
      obtain ⟨G', fs, ft, C, L, M⟩ := s'
      cases M with | tm h1 h2 =>
      cases h2
      refine hQ _ H' G' _ ⟨fun a o e => C.prot a o e (fun z => nomatch z), C.sub, C.base, fun a o e => ?_⟩ h1 ((List.sublist_append_right fs _).nodup (by simpa using C.nd)) fun a m => ?_
      · rcases C.newG a o e with z | z | z
        · exact .inl z
        · exact .inr z
        · cases z
      · obtain ⟨z1, z2⟩ := C.own a (by simp [m])
        exact ⟨z1, z2.resolve_left fun y => nomatch y⟩
end
section
variable {X : Cx} {W : WX} {ρ : Rho} {Φ : Ph} {pos : Pos}
/-- isinstance of an exception that the context holds -/
theorem call_isP {ex D : Addr} {ob : Obj} (held : (ex, ob) ∈ X.pn) (C : ExcC X.K D) (hz : L2.Zc (.ref D) none ob) (hf : ∃ vs, ob.data = .fields vs) : CallR X (.builtin "isinstance") (rIsE X.K D ex) := by
  rintro pins s σ H xs us Q I rel ⟨c, cv, b, rfl, same, kit, q⟩
  obtain ⟨cells, hv⟩ := hf
  have stands := (I.pin (ex, ob) (List.mem_append_left _ held)).1
  cases rel with | cons r1 rel =>
  cases rel with | cons r2 rel =>
  cases rel
  cases r1
  obtain rfl := same _ r2
  have inst : PySem.W.InstAt s.heap ex ob D none := by
    cases ob with | mk k1 k2 k3 k4 =>
    obtain ⟨z1, z2⟩ := hz
    change k1 = _ at z1
    subst z1
    have z2 : _ = none := z2
    have hv : _ = Data.fields cells := hv
    first
    | exact ⟨stands, rfl, hv ▸ rfl, trivial⟩
    | (subst z2; subst hv; exact ⟨stands, rfl, rfl, trivial⟩)
    | (subst hv; exact ⟨stands, rfl, z2, trivial⟩)
  exact PySem.W.kia_one (PySem.W.handS_kitx_exc C.hg C.hk C.hs C.hd C.ha C.hn C.ht C.hm) I.kIn inst kit (fun z => nomatch z) fun tk => ⟨.bl b, H, I.kept (t' := tk) fun _ _ z => z, rfl, q⟩
theorem e_isP {a0 : Addr} {oe : Obj} {a b : Expr} {D B : Addr} {z : Bool} {p : Pos} (held : (a0, oe) ∈ X.pn) (hm : X.mg "isinstance" = none) (hC : ExcC X.K D) (hz : L2.Zc (.ref D) none oe) (hf : ∃ vs, oe.data = .fields vs)
    (ha : E X ρ a (.tm (.d (.adr a0)))) (hb : E X ρ b (.tm (.d (.adr B)))) (hk : PySem.W.kitOne X.K (.ref D) (.ref B) = some z) (hg : Gl X "isinstance" := by rfl)
    (hst : starEach [a, b] X.env = (false, eval a X.env) :: starEach [b] X.env := by rfl) (hst2 : starEach [b] X.env = (false, eval b X.env) :: starEach [] X.env := by rfl) (hpl : (backTo pos (starEach [b] X.env)).any (·.1) = false := by rfl) :
    E X ρ (.Call (.Name "isinstance" p) [a, b] [] pos) (.tm (.d (.bl z))) := fun c τ σ H s Q q =>
  te_of (pe_callB (call_isP held hC hz hf) hg hm (by decide +kernel) (pa_cons peS (pa_cons peS pa_nil hst2) hst) (by decide) (by decide) hst hpl) (ha c τ σ H s _ fun v H1 s1 => hb c _ σ H1 s1 _ fun u H2 s2 => by
    obtain rfl := s2.vadr
    obtain rfl := s2.pop.vadr
    exact ⟨.ref B, .ref B, z, rfl, fun _ h => h, hk, q _ _ (s2.pop.pop.push fun _ => .bl z)⟩)
theorem e_isPB {a0 : Addr} {oe : Obj} {a : Expr} {D : Addr} {z : Bool} {zz : String} {nm : Str} {p p2 : Pos} (held : (a0, oe) ∈ X.pn) (hm : X.mg "isinstance" = none) (hm2 : X.mg nm = none) (hC : ExcC X.K D) (hz : L2.Zc (.ref D) none oe) (hf : ∃ vs, oe.data = .fields vs)
    (ha : E X ρ a (.tm (.d (.adr a0)))) (hk : PySem.W.kitOne X.K (.ref D) (.type zz) = some z) (hb : bootBuiltins nm = some (.type zz)) (hg : Gl X "isinstance" := by rfl) (hg2 : Gl X nm := by rfl) (hn : nm ≠ "__name__" := by decide) (hdb : (nm == ("__debug__" : Str)) = false := by decide)
    (hst : starEach [a, .Name nm p2] X.env = (false, eval a X.env) :: starEach [.Name nm p2] X.env := by rfl) (hst2 : starEach [.Name nm p2] X.env = (false, eval (.Name nm p2) X.env) :: starEach [] X.env := by rfl) (hpl : (backTo pos (starEach [.Name nm p2] X.env)).any (·.1) = false := by rfl) :
    E X ρ (.Call (.Name "isinstance" p) [a, .Name nm p2] [] pos) (.tm (.d (.bl z))) := fun c τ σ H s Q q =>
  te_of (pe_callB (call_isP held hC hz hf) hg hm (by decide +kernel) (pa_cons peS (pa_cons (pe_bltn (X := X) (v := .ty zz) hg2 hm2 hb rfl hn hdb) pa_nil hst2) hst) (by decide) (by decide) hst hpl) (ha c τ σ H s _ fun v H1 s1 => by
    obtain rfl := s1.vadr
    exact ⟨.ty zz, .type zz, z, rfl, fun _ h => h, hk, q _ _ (s1.pop.push fun _ => .bl z)⟩)
/-- the call -/
theorem pe_callP {k : Nat} {f : Addr} {fd : FuncData} {ps : List Str} {sp : Addr × Obj → Sp} {x : Str} {q0 : Pos} {e : Expr} {es : List Expr} {t : TA} {p : Addr × Obj} (F : FnS X.prog X.w X.K X.mg X.base k f fd ps sp) (hr : L2H.RoomH k X.A) (held : p ∈ X.pn) (hg : Gl X x) (hm : X.mg x = some (.ref f)) (hk : PySem.W.keepIn X.K (.ref f) = true) (hb : Binds X.K fd ps [])
    (ha : PA X (e :: es) t) (hdb : (x == ("__debug__" : Str)) = false) (he : starEach (e :: es) X.env = (false, eval e X.env) :: starEach es X.env) (hpl : (backTo pos (starEach es X.env)).any (·.1) = false) :
    PE X (.Call (.Name x q0) (e :: es) [] pos) (fun σ H Q => t σ H fun vs H1 => sp p vs H1 Q fun _ _ _ => False) := by
  constructor
  intro pins s σ H Q I h
  refine wpAny_Call_Name_kw (ld_glob I hg hm (PySem.W.callWith_K (h₀ := X.base) I.ok.mod.kin hk (thn (ha.run pos pins s σ H _ I h) fun us s1 hh => ?_) he hpl) hdb)
  obtain ⟨vs, H1, I1, rel, wish⟩ := hh
  refine ⟨I1.kIn, ?_⟩
  obtain ⟨here, unk, notL, notF, notC⟩ := I1.pin p (List.mem_append_left _ held)
  have pinned : L2H.PinOk X.stack H1 s1 p := ⟨here, unk, fun m => (List.mem_cons.mp (I1.stkSub p.1 m)).elim notL notF, notC⟩
  have many : us.length = ps.length := rel.length.symm.trans (F.arity _ _ _ _ _ wish)
  have binds := hb s1 us I1.kIn (by rw [List.append_nil]; exact many)
  rw [List.append_nil] at binds
  refine wpAny_call (codeAny_mono (F.go X.A X.stack s1 H1 ⟨us, []⟩ us vs Q _ p hr pinned I1.env0 binds rel wish) fun res s2 hz => ?_)
  cases res with
  | error u => obtain ⟨_, _, _, _, _, _, _, _, _, _, _, _, no⟩ := hz; exact no.elim
  | ok fl =>
    cases fl with
    | ret u => exact I1.after hz
    | next => exact hz.elim
    | brk => exact hz.elim
    | cont => exact hz.elim
/-- x = f(e) within a suite -/
theorem s_callP {a : Addr} {oe : Obj} {pn : List (Addr × Obj)} {x0 nm : Str} {e : Expr} {pos' p spos : Pos} {k : Nat} {pre : Addr × Obj → Prop} {t : T} (n : Nat) (nd : X.N.Nodup) (F : KnP X.prog X.w X.K X.mg X.base nm k pre t) (hr : Room k X.A) (he0 : E (X.suite a ((a, oe) :: pn)) ρ e (.tm (.d (.adr a)))) (hpre : pre (a, oe)) (h : Φ.nx (ρ.set n (some t)))
    (hρ : Nat.ble (n + 1) ρ.length = true := by rfl) (hi : X.N[n]? = some x0 := by rfl) (hl : Loc X.env.scope x0 := by first | exact Or.inl rfl | exact Or.inr rfl)
    (hf : X.fn x0 = true ∨ X.env.scope.names.lookup x0 = some .local := by first | exact .inl rfl | exact .inr rfl | assumption) (hg : Gl X nm := by rfl) (hdb : (nm == ("__debug__" : Str)) = false := by decide)
    (he : starEach [e] X.env = (false, eval e X.env) :: starEach [] X.env := by rfl) (hpl : (backTo pos (starEach [] X.env)).any (·.1) = false := by rfl) (hs : swapsWith (.Call (.Name nm p) [e] [] pos) (some (.Name x0 pos')) spos.line X.env = pure false := by rfl) :
    S1 (X.suite a ((a, oe) :: pn)) W ρ (.Assign [.Name x0 pos'] (.Call (.Name nm p) [e] [] pos) spos) Φ := fun c τ σ H tm s D P => by
  obtain ⟨f, fd, ps, F, hm, hk, hb⟩ := F
  refine ts_of (ps_set (X := X.suite a ((a, oe) :: pn)) nd hi hl (pe_callP (X := X.suite a ((a, oe) :: pn)) (p := (a, oe)) F ⟨hr.dp, hr.un⟩ List.mem_cons_self hg hm hk hb (pa_cons peS pa_nil he) hdb he hpl) hs hf) (he0 c τ σ H s _ fun v H1 s1 => ?_)
  obtain rfl := s1.vadr
  obtain ⟨G, fs, ft, C, L, M⟩ := s1.pop
  exact ⟨G, C.sub, rfl, hpre, fun u H' G' fp af w nd fr => P.nx _ _ _ h ((St.after (by simpa using C) L M af w nd fr).store (Nat.le_of_ble_eq_true hρ) tm)⟩
end
end DL
namespace DL
open PySem PySem.Spec PyProof.Rows L2
theorem noteFrame_env {e : Value} {c1 c2 : Env} (h : c1.frame = c2.frame) : noteFrame e c1 = noteFrame e c2 := by
  unfold noteFrame PySem.frameOf
  rw [h]
theorem passOn_env {α : Type} {what : String} {e : Value} {c1 c2 : Env} (h : c1.frame = c2.frame) : (PySem.passOn what e c1 : Sem α) = PySem.passOn what e c2 := by
  unfold PySem.passOn
  rw [h]
/-- an exception in the air, the comprehension's own names (at C) out of sight -/
structure Air (X : Cx) (pins : List (Addr × Obj)) (σ : L2.St) (C ex : Addr) (H : Hp) (gr : Heap) (old s : Shared) : Prop where
  inv : Inv X pins σ H old
  ground : ∀ q ob, old.heap.get? q = some ob → q ∉ frs X.stack → gr.get? q = some ob
  slots : old.heap.UpToSlots s.heap
  free : H ex = none
  sameOs : s.os = old.os
  bare : AllBare s.gens
  noC : gr.get? C = none
  oldC : old.heap.get? C = none
section
variable {X : Cx} {pins : List (Addr × Obj)} {σ : L2.St} {H H' H3 : Hp} {C ex : Addr} {gr : Heap} {old s s' s0 s3 : Shared} {fp : List Addr} {cls : Value} {dd : Option Addr} {m : Str → Option Value}
theorem air_of {Ex : XK} {u : Value} (I3 : Inv X pins σ H3 s3) (hfp : ∀ b ∈ fp, FpOk X pins H3 b) (hC : s3.heap.objs.size ≤ C) (os0 : s0.os = s3.os) (u0 : Un (frs X.stack) fp H3 H' s3.heap s0.heap) (nC : H' C = none) (ns : s0.heap.Ns C m)
    (cx : L2.CX X.prog X.w X.stack H' s0 Ex u s') : ∃ ex gr old cls dd H2, u = .ref ex ∧ Air X pins σ C ex H2 gr old s' ∧ HandSPX.FlyingZ gr X.stack ex (L2.Zc cls dd) s'.heap ∧ Ex cls dd H2 ∧ s'.heap.Ns C m := by
  obtain ⟨a, B, H2, cls, d, rfl, fl, hok, ub, na, os, ag, hE⟩ := cx
  obtain ⟨oC, es, ep, atC, dataC, keysC⟩ := ns
  have small : ∀ {b : Addr} {o : Obj}, s3.heap.get? b = some o → b ≠ C := fun {b o} e z => absurd (Heap.lt_size e) (by rw [z]; exact Nat.not_lt.mpr hC)
  have frC : C ∉ frs X.stack := fun hm => by
    obtain ⟨_, o, e, _⟩ := I3.stack.mem hm
    exact small e rfl
  have hidC : H2 C = none := ub.free C oC atC nC
  have inB : B.get? C = some oC := ub.keep C oC atC nC frC
  obtain ⟨B1, k1, k2⟩ := restrict B fun b => decide (b ≠ C)
  have b1of : ∀ {b : Addr}, b ≠ C → B1.get? b = B.get? b := fun {b} hb => k1 b (decide_eq_true hb)
  have b1C : B1.get? C = none := k2 C (by simp)
  have b1le : ∀ {b : Addr} {o : Obj}, B1.get? b = some o → B.get? b = some o := fun {b o} e => by
    by_cases hb : b = C
    · rw [hb, b1C] at e; cases e
    · rw [← b1of hb]; exact e
  obtain ⟨G, g1, g2⟩ := restrict s'.heap fun b => (B1.get? b).isSome || decide (b ∈ frs X.stack)
  have gB : ∀ {b : Addr} {o : Obj}, B1.get? b = some o → G.get? b = some o := fun {b o} e => by
    rw [g1 b (by simp [e])]
    exact fl.1 b o (b1le e)
  have gF : ∀ {b : Addr}, b ∈ frs X.stack → G.get? b = s'.heap.get? b := fun {b} hb => g1 b (by simp [hb])
  have gof : ∀ {b : Addr} {o : Obj}, G.get? b = some o → s'.heap.get? b = some o ∧ ((B1.get? b).isSome = true ∨ b ∈ frs X.stack) := fun {b o} e => by
    cases q : ((B1.get? b).isSome || decide (b ∈ frs X.stack)) with
    | false => rw [g2 b q] at e; cases e
    | true =>
      rw [g1 b q] at e
      refine ⟨e, ?_⟩
      rcases Bool.or_eq_true_iff.mp q with z | z
      · exact .inl z
      · exact .inr (of_decide_eq_true z)
  have un : Un (frs X.stack) fp H3 H2 s3.heap G := by
    refine ⟨fun b o e n hb hx => ?_, fun b o e n hb hx => ?_, fun b o e n hx => ?_, fun b o e hx => ?_, fun b xs q => ub.tups b xs (u0.tups b xs q), fun b o u q => ub.frzs b o u (u0.frzs b o u q), fun b ps q => ?_⟩
    · refine gB ?_
      rw [b1of (small e)]
      exact ub.keep b o (u0.keep b o e n hb hx) (u0.free b o e n hx) hb
    · obtain ⟨sl, e1⟩ := u0.slot b o e n hb hx
      obtain ⟨sl2, e2⟩ := ub.slot b _ e1 hb
      exact ⟨sl2, (gF hb).trans e2⟩
    · obtain ⟨o', e1⟩ := u0.there b o e hx
      exact ub.free b o' e1 (u0.free b o e n hx)
    · obtain ⟨o', e1⟩ := u0.there b o e hx
      by_cases hb : b ∈ frs X.stack
      · obtain ⟨sl2, e2⟩ := ub.slot b _ e1 hb
        exact ⟨_, (gF hb).trans e2⟩
      · obtain ⟨o2, e2⟩ := ub.there b o' e1 hb
        exact ⟨o2, gB ((b1of (small e)).trans e2)⟩
    · obtain ⟨more, q1⟩ := u0.tbls b ps q
      obtain ⟨more2, q2⟩ := ub.tbls b _ q1
      exact ⟨more ++ more2, by rw [q2, Array.append_assoc]⟩
  have hokG : HOk X.prog X.w H2 G := fun b o q => (hok b o q).stay (fun c w hc r => by
    have hcC : c ≠ C := fun z => by
      subst z
      rcases hc with hc | hc
      · rw [hc, q] at hidC; cases hidC
      · rw [hc] at hidC; cases hidC
    exact gB ((b1of hcC).trans r)) (fun _ r => r) fun _ _ r => r
  have inv : Inv X pins σ H2 { s' with heap := G } := I3.call' (s' := { s' with heap := G }) (ch := fp) (os.trans os0) un hokG ag fun b hb =>
    let f := hfp b hb
    ⟨f.2.2.2.1, f.2.1, f.2.2.2.2.1, f.2.2.2.2.2⟩
  refine ⟨a, B1, { s' with heap := G }, cls, d, H2, rfl, ⟨inv, fun q ob e hq => ?_, Heap.UpToSlots.of_keeps fun b o e => (gof e).1, na, rfl, ag, b1C, ?_⟩, ⟨fun b o e => fl.1 b o (b1le e), ?_, ?_, ?_⟩, hE, ⟨oC, es, ep, fl.1 C oC inB, dataC, keysC⟩⟩
  · obtain ⟨e1, z⟩ := gof e
    rcases z with z | z
    · obtain ⟨o', q'⟩ := Option.isSome_iff_exists.mp z
      have e2 := fl.1 q o' (b1le q')
      rw [e1] at e2
      cases e2
      exact q'
    · exact absurd z hq
  · refine g2 C ?_
    rw [b1C, decide_eq_false frC]
    rfl
  · cases q : B1.get? a with
    | none => rfl
    | some o => have := b1le q; rw [fl.2.1] at this; cases this
  · refine funFrames_none fl.2.2.1 fun L hL => ?_
    cases q : B1.get? L with
    | none => rfl
    | some o =>
      have z := b1le q
      rw [(fl.2.2.1.mem hL).1] at z; cases z
  · obtain ⟨oe, vs, T, oT, ts, h1, h2, h3, h4, h5, h6, h7, h8, h9⟩ := fl.2.2.2
    refine ⟨oe, vs, T, oT, ts, h1, h2, h3, h4, ?_, h6, h7, h8, h9⟩
    cases q : B1.get? T with
    | none => rfl
    | some o => have := b1le q; rw [h5] at this; cases this
theorem frames_but {h h2 base : Heap} {C : Addr} (k : ∀ b, b ≠ C → h2.get? b = h.get? b) : ∀ {l : List Env}, C ∉ frs l → h.FunFrames base l → h2.FunFrames base l
  | [], _, _ => trivial
  | env :: rest, hn, ⟨hk, ⟨L, o, hf, hb, ho, hd⟩, hr⟩ => by
    have hL : L ≠ C := fun z => hn (List.mem_filterMap.mpr ⟨env, List.mem_cons_self, by rw [hf, z]⟩)
    refine ⟨hk, ⟨L, o, hf, hb, (k L hL).trans ho, hd⟩, frames_but k (fun z => hn ?_) hr⟩
    obtain ⟨e, he, q⟩ := List.mem_filterMap.mp z
    exact List.mem_filterMap.mpr ⟨e, List.mem_cons_of_mem _ he, q⟩
/-- noted by this frame -/
theorem air_note {ce : Env} {Q : Unit → Shared → Prop} {E : Value → Shared → Prop} (A : Air X pins σ C ex H gr old s) (st : X.stack = X.env :: X.outer) (hf : X.env.frame = some X.env.locals) (hce : ce.frame = X.env.frame) (fl : HandSPX.FlyingZ gr X.stack ex (L2.Zc cls dd) s.heap) (ns : s.heap.Ns C m)
    (q : ∀ s2, Air X pins σ C ex H gr old s2 → HandSPX.HeldZ gr X.stack ex (L2.Zc cls dd) X.env.locals s2.heap → s2.heap.Ns C m → Q () s2) : wpAny (model X.prog X.w) X.A (noteFrame (.ref ex) ce) Q E s := by
  have hfr : X.A.frames = some (X.env :: X.outer) := A.inv.ok.frames.trans (congrArg some st)
  rw [noteFrame_env hce]
  rw [st] at fl q
  exact HandSPX.looks_onZ Zc.steady hfr hf fl fun h1 held up => q { s with heap := h1 } ⟨A.inv, A.ground, A.slots.trans up, A.free, A.sameOs, A.bare, A.noC, A.oldC⟩ held (up.ns ns)
/-- and on, the comprehension's names let go -/
theorem air_pass {W : WX} {ce : Env} {what : String} {h2 : Heap} (A : Air X pins σ C ex H gr old s) (st : X.stack = X.env :: X.outer) (hf : X.env.frame = some X.env.locals) (hce : ce.frame = X.env.frame) (held : HandSPX.HeldZ gr X.stack ex (L2.Zc cls dd) X.env.locals s.heap) (ns : s.heap.Ns C m) (but : Heap.SameBut C s.heap h2) (frC : C ∉ frs X.stack)
    (tk : Takes X W) (w : W cls dd σ H) : wpAny (model X.prog X.w) X.A (PySem.passOn what (.ref ex) ce : Sem Value) (fun _ _ => False) X.xe { s with heap := h2 } := by
  obtain ⟨oC, es, ep, atC, dataC, _⟩ := ns
  obtain ⟨k1, k2, k3, oe, vs, T, oT, ts, g1, g2, g3, g4, g5, g6, g7, g8, g9⟩ := held
  have notC : ∀ {b : Addr} {o : Obj} {xs : Array Value}, s.heap.get? b = some o → o.data = .fields xs → b ≠ C := fun {b o xs} e d z => by
    rw [z, atC] at e
    cases e
    rw [dataC] at d
    cases d
  have held2 : HandSPX.HeldZ gr X.stack ex (L2.Zc cls dd) X.env.locals h2 := by
    refine ⟨fun b o e => ?_, k2, frames_but but.2 frC k3, oe, vs, T, oT, ts, (but.2 _ (notC g1 g3)).trans g1, g2, g3, g4, g5, g6, (but.2 _ (notC g7 g8)).trans g7, g8, g9⟩
    have hb : b ≠ C := fun z => by rw [z, A.noC] at e; cases e
    exact (but.2 b hb).trans (k1 b o e)
  have slots2 : old.heap.UpToSlots h2 := fun b o e hn => by
    have hb : b ≠ C := fun z => by rw [z, A.oldC] at e; cases e
    obtain ⟨sl, q⟩ := A.slots b o e hn
    exact ⟨sl, (but.2 b hb).trans q⟩
  rw [passOn_env hce]
  unfold PySem.passOn
  refine wpAny_bind (wpAny_field (s := { s with heap := h2 }) held2.2.2.2.choose_spec.choose_spec.choose_spec.choose_spec.choose_spec.1 held2.2.2.2.choose_spec.choose_spec.choose_spec.choose_spec.choose_spec.2.2.1 held2.2.2.2.choose_spec.choose_spec.choose_spec.choose_spec.choose_spec.2.2.2.1 ?_)
  have nn : ∀ t : Addr, ¬ (Value.ref t == Value.none) = true := fun t => by simp
  rw [if_neg (nn _)]
  have onward : wpAny (model X.prog X.w) X.A (setFlight (.ref ex) X.env.frame) (fun _ z => wpAny (model X.prog X.w) X.A (throw (.ref ex) : Sem Value) (fun _ _ => False) X.xe z) X.xe { s with heap := h2 } := by
    rw [hf]
    refine HandSPX.setFlight_onZ held2 fun h3 held3 up3 => wpAny_throw (tk _ _ ⟨ex, gr, old, pins, σ, H, cls, dd, rfl, A.inv, A.ground, slots2.trans up3, .inr (.inr held3), A.free, A.sameOs, A.bare, w⟩)
  first
    | exact wpAny_bind (wpAny_pure (wpAny_bind onward))
    | exact wpAny_bind onward
end
section
variable {M : Model} {A : Around} {E : Value → Shared → Prop} {s : Shared} {env : Env}
/-- how a comprehension's block ends -/
def CompOut (M : Model) (A : Around) (E : Value → Shared → Prop) (use : Option (Value → Sem Unit)) (Q : Value → Shared → Prop) (acc : Value) (cenv : Env) (r : Result) (s' : Shared) : Prop :=
  match r with
  | .ok f => compPost M A E use Q acc cenv.locals (.ok f) s'
  | .error x => ∃ m, s'.heap.Ns cenv.locals m ∧ ∀ h', Heap.SameBut cenv.locals s'.heap h' → wpAny M A (PySem.passOn "comprehension.variables-let-go" x cenv : Sem Value) (fun _ _ => False) E { s' with heap := h' }
theorem comp_out {e : Expr} {scope : Scope} {pos : Pos} {newAcc first : Sem Value} {g0 : Comprehension} {gs : List Comprehension} {cl : List (Str × Addr)} {use : Option (Value → Sem Unit)} {Q : Value → Shared → Prop}
    (clauses : clausesOf e = g0 :: gs) (fold : ∀ x, foldedSetIterable g0.iter env x = pure x) (closed : closureFor scope env = pure cl) (kindF : scope.kind = .function) (locals : ∀ x ∈ scope.names, x.2 = .local → scope.names.lookup x.1 = some .local)
    (h : wpAny M A first (fun x1 t1 => wpAny M A (pyIter x1) (fun it t2 => wpAny M A newAcc (fun acc t3 => wpAny M A (newFunctionEnv scope env.globals cl [] env.qual none .none (some env)) (fun ce t4 =>
      codeAny M A (.compStart e 0 it acc { ce with scope := relabel scope env }) (CompOut M A E use Q acc { ce with scope := relabel scope env }) t4) E t3) E t2) E t1) E s) : wpAny M A (comprehension e scope env pos newAcc false first use) Q E s := by
  unfold comprehension
  rw [closed, clauses]
  have out : ∀ {β : Type} {t : Sem β} {R R2 : β → Shared → Prop} {z : Shared}, wpAny M A t R E z → (∀ b z, R b z → R2 b z) → wpAny M A t R2 E z := fun hw hm => wpAny_mono hw hm fun _ _ e => e
  refine wpAny_bind (out h fun x1 t1 w1 => wpAny_bind (wpAny_standAt (wpAny_bind (wpAny_of_eq (fold x1) (wpAny_bind (wpAny_holding (out w1 fun it t2 w2 => wpAny_standIf (wpAny_bind (out w2 fun acc t3 w3 => wpAny_bind (wpAny_pure (wpAny_bind (out w3 fun ce t4 w4 => ?_))))))))))))
  dsimp only
  have vis : ∀ x ∈ (scope.names.filter fun x => (x.2 == .local || x.2 == .cell) && x.1 != (".0" : Str)).reverse, x.2 = .local → Env.kindOf { ce with scope := relabel scope env } x.1 = some .local := fun x hx hl => lookup_relabel_local (locals x (List.mem_filter.mp (List.mem_reverse.mp hx)).1 hl)
  have vis2 : ∀ x ∈ (scope.names.filter fun x => (x.2 == .local || x.2 == .cell) && x.1 != (".0" : Str)).reverse.drop 1 ++ (scope.names.filter fun x => (x.2 == .local || x.2 == .cell) && x.1 != (".0" : Str)).reverse.take 1, x.2 = .local → Env.kindOf { ce with scope := relabel scope env } x.1 = some .local := fun x hx hl =>
    (List.mem_append.mp hx).elim (fun z => vis x (List.mem_of_mem_drop z) hl) fun z => vis x (List.mem_of_mem_take z) hl
  refine wpAny_holding (wpAny_bind (wpAny_attempt (wpAny_holding (wpAny_run (codeAny_mono w4 fun r t5 hr => ?_)))))
  match r, hr with
  | .error x, hr =>
    obtain ⟨m, hn, on⟩ := hr
    exact wpAny_bind (wpAny_holding (wpAny_comp_letGo (cenv := { ce with scope := relabel scope env }) kindF _ t5 m vis hn fun h' m' _ but => wpAny_mono (on h' but) (fun _ _ z => z.elim) fun _ _ y => y))
  | .ok fl, hr =>
    cases use with
    | none =>
      obtain ⟨m, hn, on⟩ := hr
      exact wpAny_bind (wpAny_holding (wpAny_comp_letGo (cenv := { ce with scope := relabel scope env }) kindF _ t5 m vis hn fun h' m' _ but => wpAny_pure (on h' but)))
    | some u =>
      refine wpAny_bind (wpAny_rule (wpAny_bind (wpAny_holding (out hr fun _ t6 w6 => ?_))))
      obtain ⟨m, hn, on⟩ := w6
      exact wpAny_bind (wpAny_comp_letGo (cenv := { ce with scope := relabel scope env }) kindF _ t6 m vis2 hn fun h' m' _ but => wpAny_pure (on h' but))
end
/-- the block whose element may raise as Ex says -/
abbrev blkW (X : Cx) (scope : Scope) (s : Shared) (H : Hp) (C : Addr) (cl : List (Str × Addr)) (fp : List Addr) (Ex : XK) : Cx :=
  (blkX X scope s H C cl fp).wish fun e s' => ∃ pins σ' H' s0, Inv (blkX X scope s H C cl fp) pins σ' H' s0 ∧ L2.CX X.prog X.w X.stack H' s0 Ex e s'
section
variable {X : Cx} {W : WX}
theorem ps_setLcX {i : Nat} {y : Str} {py : Pos} {elt tg iter : Expr} {scope : Scope} {own : List (Str × Nat)} {pos spos : Pos} {wi : TI} {g : TG} {te : XK → TE} (calm : X.calm = true) (nd : X.N.Nodup) (st : X.stack = X.env :: X.outer) (hf : X.env.frame = some X.env.locals) (tk : Takes X W) (hy : X.N[i]? = some y) (hyl : X.env.scope.names.lookup y = some .local)
    (sw : swapsWith (.ListComp elt [⟨tg, iter, [], 0⟩] scope pos) (some (.Name y py)) spos.line X.env = pure true) (hi : PI X tg iter wi) (ok : BlkOk X.N X.env.scope scope own) (hg : ∀ s H C cl fp, PG (blkX X scope s H C cl fp) tg g) (he : ∀ s H C cl fp Ex, PE (blkW X scope s H C cl fp Ex) elt (te Ex))
    (fold : ∀ x, foldedSetIterable iter X.env x = pure x) :
    PS X (.Assign [.Name y py] (.ListComp elt [⟨tg, iter, [], 0⟩] scope pos) spos) (fun D σ H => ∃ Ex : XK, (∀ cls d H', Ex cls d H' → W cls d σ H') ∧ tLc wi g tYes (te Ex) (own.map (·.2)) σ H fun x H1 => gName i x σ H1 D.nx) := by
  constructor
  rintro pins s σ H D I ⟨Ex, toW, h⟩
  have closed : ∀ z ∈ scope.names, z.2 = .free → ∃ c, X.env.cells.lookup z.1 = some c := fun z hz e =>
    (ok.free z hz e).elim (fun k => I.ok.has _ (.inl k)) fun k => I.ok.has _ (.inr k)
  rw [exec_Assign_Name_used _ _ _ _ sw]
  refine wpAny_bind (wpAny_standAt (wpAny_bind ?_))
  show wpAny _ X.A (do let _ ← comprehension (.ListComp elt [⟨tg, iter, [], 0⟩] scope pos) scope X.env (firstIterPos [⟨tg, iter, [], 0⟩] pos) (newList []) false (eval iter X.env) (some (assign (.Name y py) X.env))) _ _ s
  refine wpAny_bind (thn (Q := fun _ z => SP X pins D .next z) (comp_out (use := some (assign (.Name y py) X.env)) rfl fold (closure_ok closed) ok.kind (fun z hz e => by rw [ok.uniq z hz, e]) (thn (hi.run pins s σ H _ I h) fun xv s1 hx => thn hx fun itv s2 h2 => ?_)) fun _ z hz => wpAny_pure (wpAny_pure hz))
  obtain ⟨it, fp, tn, J, H2, rfl, I2, T, st2, f2, q⟩ := h2
  refine wpAny_newObj_type (newEnv_comp ?_) (by show 0 ≤ sizeLine; decide)
  obtain ⟨D0, eD⟩ : ∃ D0, D0 = s2.heap.objs.size := ⟨_, rfl⟩
  rw [← eD]
  have freshD : H2 D0 = none := I2.hok.fresh (Nat.le_of_eq eD.symm)
  obtain ⟨Wv, ⟨n0, w0⟩, turn⟩ := q D0 freshD
  -- the new list is laid
  obtain ⟨s3, e3⟩ : ∃ s3 : Shared, s3 = { s2 with heap := s2.heap.push { cls := .type "list", data := .seq ([] : List Value).toArray } } := ⟨_, rfl⟩
  rw [← e3]
  have hp3 : s3.heap = s2.heap.push { cls := .type "list", data := .seq ([] : List Value).toArray } := by rw [e3]
  have I3 : Inv X pins σ (upd H2 D0 (.lst [])) s3 := by
    rw [e3]
    refine I2.laid (t' := s2.toks) (fun b o e => Heap.get?_push_of_some _ e) (Nat.le_of_eq eD.symm) ⟨Nat.zero_le _, [], 0, .nil, ?_⟩
    rw [eD]
    exact Heap.get?_push_size _ rfl
  have within : ∀ b ∈ fp, b < s2.heap.objs.size := fun b hb => let ⟨_, e, _⟩ := T.obj _ _ st2 b hb; Heap.lt_size e
  have f3 : ∀ b ∈ fp, FpOk X pins (upd H2 D0 (.lst [])) b ∧ b < s3.heap.objs.size := fun b hb => by
    refine ⟨⟨?_, (f2 b hb).2⟩, by rw [hp3, Heap.size_push]; exact Nat.lt_succ_of_lt (within b hb)⟩
    rw [upd_ne (by rw [eD]; exact Nat.ne_of_lt (within b hb))]
    exact (f2 b hb).1
  have st3 : tn 0 s3.heap := T.keep _ _ _ st2 fun b _ o e => by rw [hp3]; exact Heap.get?_push_of_some _ e
  have I4 := block_start I3 ok nd f3
  obtain ⟨C, eC⟩ : ∃ C, C = s3.heap.objs.size := ⟨_, rfl⟩
  obtain ⟨cl, ecl⟩ : ∃ cl, cl = cellsFrom (s3.heap.objs.size + 1) scope.names (cloFrom X.env.cells scope.names []) := ⟨_, rfl⟩
  obtain ⟨H3, eH3⟩ : ∃ H3, H3 = upd H2 D0 (.lst []) := ⟨_, rfl⟩
  obtain ⟨s4, e4⟩ : ∃ s4 : Shared, s4 = { s3 with heap := pushCells (s3.heap.push { cls := .type "dict", data := .dict #[] }) scope.names } := ⟨_, rfl⟩
  rw [← eC, ← eH3] at I4
  show codeAny _ _ (.compStart (.ListComp elt [⟨tg, iter, [], 0⟩] scope pos) 0 (.ref it) (.ref D0) (compEnvC scope (cellsFrom (s3.heap.objs.size + 1) scope.names (cloFrom X.env.cells scope.names [])) s3.heap.objs.size X.env)) (CompOut (model X.prog X.w) X.A X.xe (some (assign (.Name y py) X.env)) (fun _ z => SP X pins D .next z) (.ref D0) (compEnvC scope (cellsFrom (s3.heap.objs.size + 1) scope.names (cloFrom X.env.cells scope.names [])) s3.heap.objs.size X.env)) { s3 with heap := pushCells (s3.heap.push { cls := .type "dict", data := .dict #[] }) scope.names }
  rw [← eC, ← e4]
  rw [← e4] at I4
  have st4 : tn 0 s4.heap := T.keep _ _ _ st3 fun b _ o e => by rw [e4]; exact pushCells_keeps _ _ _ _ (Heap.get?_push_of_some _ e)
  rw [← eH3] at I3 w0 f3
  have ecl' : cellsFrom (C + 1) scope.names (cloFrom X.env.cells scope.names []) = cl := by rw [ecl, eC]
  rw [ecl'] at I4 ⊢
  have I4 : Inv (blkX X scope s3 H3 C cl fp) [] (wipe σ (own.map (·.2))) H3 s4 := I4
  have still : ∀ {σ' : L2.St} {H' : Hp} {z : Shared}, Inv (blkX X scope s3 H3 C cl fp) [] σ' H' z → (∀ b ∈ fp, H' b = none) → ∀ b ∈ fp, FpOk (blkX X scope s3 H3 C cl fp) [] H' b := fun {σ' H' z} I' hn b hb =>
    ⟨hn b hb, (I'.ok.exf b hb).1, I'.ok.exfs b hb, .inl hb, fun x c e => (I'.ok.exf b hb).2 x c e, fun p hp => absurd (show p ∈ ([] : List (Addr × Obj)) ++ [] from hp) (by simp)⟩
  have hCs : s3.heap.objs.size ≤ C := Nat.le_of_eq eC.symm
  have frC : C ∉ frs X.stack := fun hm => by
    obtain ⟨_, o, e, _⟩ := I3.stack.mem hm
    exact absurd (Heap.lt_size e) (Nat.not_lt.mpr hCs)
  have loop : codeAny (model X.prog X.w) X.A (.compLoop (.ListComp elt [⟨tg, iter, [], 0⟩] scope pos) 0 (.ref it) (.ref D0) (compEnvC scope cl C X.env)) (CompOut (model X.prog X.w) X.A X.xe (some (assign (.Name y py) X.env)) (fun _ z => SP X pins D .next z) (.ref D0) (compEnvC scope cl C X.env)) s4 := by
    refine compLoop_any (fun n z => ∃ j H', Inv (blkX X scope s3 H3 C cl fp) [] (wipe σ (own.map (·.2))) H' z ∧ tn j z.heap ∧ (∀ b ∈ fp, H' b = none) ∧ Wv j n H') ?_ n0 ⟨0, H3, I4, st4, fun b hb => (f3 b hb).1.1, w0⟩
    rintro n s5 ⟨j, H5, I5, st5, n5, w5⟩
    rcases turn j n H5 w5 with ⟨stop, qq⟩ | ⟨go, Nx, hNx, step⟩
    · refine thnF (T.done (blkX X scope s3 H3 C cl fp) rfl rfl rfl calm j [] s5 _ H5 (fun _ _ => False) I5 (still I5 n5) st5 stop) fun r s6 ⟨hr, I6⟩ => ?_
      subst hr
      have I7 : Inv X pins σ H5 s6 := I3.call' (ch := fp) I6.os I6.base I6.hok I6.bare fun b hb =>
        let f := (f3 b hb).1
        ⟨f.2.2.2.1, f.2.1, f.2.2.2.2.1, f.2.2.2.2.2⟩
      obtain ⟨m, hn, _⟩ := I6.loc
      have hn : s6.heap.Ns C m := hn
      have nC : H5 C = none := I6.free
      have fC : FpOk X pins H5 C := I3.fpOk hCs nC
      show wpAny _ _ (assign (.Name y py) X.env (.ref D0)) _ _ _
      refine wpAny_assign_Name (store_ok2 (v := V.ref D0) I7 nd hy (.inl hyl) rfl (fun s8 I8 ⟨a, sb, ha⟩ => ?_) (.inr hyl))
      have haC : C ≠ a := ha.elim (fun z => z ▸ fC.2.1) fun z e => fC.2.2.2.2.1 y a z e.symm
      exact ⟨m, hn.sameBut sb haC, fun h3 sb3 => ⟨_, H5, I8.turned (t' := s8.toks) (fun b o hb e => (sb3.2 b hb).trans e) fC.1 fC.2.1 fC.2.2.2.1 fC.2.2.2.2.1 fC.2.2.2.2.2, qq⟩⟩
    · refine thnF (T.item (blkX X scope s3 H3 C cl fp) rfl rfl rfl calm j [] s5 _ H5 (fun _ _ => False) I5 (still I5 n5) st5 go) fun r s6 ⟨u, hr, h6⟩ => ?_
      subst hr
      refine thnF h6 fun _ s7 ⟨x, H7, I7, r7, y7, st7, n7⟩ => ?_
      have I7' := I7.pinned (still I7 n7) (T.obj _ _ st7)
      refine thnF ((hg s3 H3 C cl fp).run _ s7 _ H7 x u _ I7' r7 (step x H7 y7)) fun _ s8 ⟨σ8, H8, I8, hw8, q8⟩ => ?_
      refine wpAny_tests_nil ?_
      have back : ∀ {z : Shared} {H' : Hp}, Inv (blkX X scope s3 H3 C cl fp) ([] ++ pinsAt fp s7.heap) σ8 H' z → Nx H' → ∃ n', n' < n ∧ ∃ j H', Inv (blkX X scope s3 H3 C cl fp) [] (wipe σ (own.map (·.2))) H' z ∧ tn j z.heap ∧ (∀ b ∈ fp, H' b = none) ∧ Wv j n' H' := fun {z H'} I' nx => by
        obtain ⟨n', hn', w'⟩ := hNx H' nx
        have pinned : ∀ b ∈ fp, ∀ o, s7.heap.get? b = some o → z.heap.get? b = some o ∧ H' b = none := fun b hb o e =>
          let p := I'.pin (b, o) (List.mem_append_right _ (List.mem_append_right _ (mem_pinsAt hb e)))
          ⟨p.1, p.2.1⟩
        refine ⟨n', hn', j + 1, H', (I'.unpinned (pins := [])).weak (by rw [← hw8, wipe_length]) (fun k v e => ?_), T.keep _ _ _ st7 fun b hb o e => (pinned b hb o e).1, fun b hb => ?_, w'⟩
        · rw [← hw8] at e
          exact (wipe_some e).1
        · obtain ⟨o, e, _⟩ := T.obj _ _ st7 b hb
          exact (pinned b hb o e).2
      have q9 : te Ex σ8 H8 fun yv H9 => ∃ acc, H9 D0 = some (.lst acc) ∧ acc.length < sizeLine ∧ Nx (upd H9 D0 (.lst (acc ++ [yv]))) := by simpa [tYes] using q8
      simp only [if_true]
      refine wpAny_mono ((he s3 H3 C cl fp Ex).run _ s8 σ8 H8 _ (I8.wish _) q9) (fun v s10 ⟨yv, H10, I10, r10, acc, hD10, hz10, nx⟩ => ?_) (fun e s10 air => ?_)
      · exact wpAny_mono (app_ok (X := blkX X scope s3 H3 C cl fp) (E := fun _ _ => False) I10.unwish hD10 hz10 r10 fun s11 I11 => back I11 nx) (fun _ _ z => z) fun _ _ z => z.elim
      · obtain ⟨pins', σ', H', s0, Ib, cx⟩ := air
        obtain ⟨mC, hnC, _⟩ := Ib.loc
        obtain ⟨ex, gr, old, cls, dd, H11, rfl, A11, fl, hE, ns⟩ := air_of (C := C) (s0 := s0) I3 (fun b hb => (f3 b hb).1) hCs Ib.os Ib.base Ib.free hnC cx
        exact air_note A11 st hf rfl fl ns fun s12 A12 held ns12 => ⟨mC, ns12, fun h' but => air_pass A12 st hf rfl held ns12 but frC tk (toW _ _ _ hE)⟩
  exact codeAny_compStart_list loop (T.self X.A 0 _ _ _ st4 loop)
end
section
variable {X : Cx} {W : WX} {ρ : Rho} {Φ : Ph} {iter : Expr}
/-- a call within such a block -/
theorem call_genB {scope : Scope} {s0 : Shared} {H0 : Hp} {C : Addr} {cl : List (Str × Addr)} {fp : List Addr} {Ex : XK} {e : Expr} {es : List Expr} {ts : List T} {nm : Str} {k : Nat} {S : Spec} {pos p : Pos} (F : Kn X.prog X.w X.K X.mg X.base nm k S) (hr : Room k X.A) (ha : EA (blkW X scope s0 H0 C cl fp Ex) ρ (e :: es) ts) (x : S.α) (hts : ts = (S.enc x).map T.d) (hpre : S.pre x) {c : Cst} {τ : List (V × R)} {σ : L2.St} {H : Hp} (s : St X.K c ρ τ σ H) {Q : VK}
    (hQ : ∀ t, S.post x t → ∀ v H', St X.K c ρ ((v, .tm t) :: τ) σ H' → Q v H') (hE : ∀ cls, S.exc x cls → ∀ H', St X.K c ρ τ σ H' → Ex cls none H') (hg : Gl (blkW X scope s0 H0 C cl fp Ex) nm) (hdb : (nm == ("__debug__" : Str)) = false)
    (he : starEach (e :: es) (blkW X scope s0 H0 C cl fp Ex).env = (false, eval e (blkW X scope s0 H0 C cl fp Ex).env) :: starEach es (blkW X scope s0 H0 C cl fp Ex).env) (hpl : (backTo pos (starEach es (blkW X scope s0 H0 C cl fp Ex).env)).any (·.1) = false) : teS (blkW X scope s0 H0 C cl fp Ex) (.Call (.Name nm p) (e :: es) [] pos) σ H Q := by
  obtain ⟨f, fd, ps, F, hm, hk, hb⟩ := F
  refine te_of (pe_callS (X := blkW X scope s0 H0 C cl fp Ex) (E := fun _ => Ex) F hr hg hm hk hb (fun σ pins H s e s' I c => ⟨pins, σ, H, s, I.unwish, c⟩) paS hdb he hpl) (ha c τ σ H s _ fun vs H1 s1 => ?_)
  obtain ⟨G, fs, fa, ft, C1, L, A, M⟩ := s1
  obtain ⟨dr, fa0⟩ := Owns.ds hts A
  subst fa0
  refine ⟨G, x, C1.sub, dr, hpre, fun t ht v H' G' fp af w nd fr => hQ t ht v H' ?_, fun cls hc H' sm => hE cls hc H' ?_⟩
  · exact St.after (by simpa using C1) L M af w nd fr
  · exact St.same ⟨G, fs, ft, by simpa using C1, L, M⟩ sm
/-- the block's turns, the element told by what becomes of it -/
theorem lcX_tail {α : Type} {xs : List α} {enc : α → D} {elt : Expr} {scope : Scope} {f : α → T} {good : α → Prop} {bad : Value → Prop} (n : Nat) (hρ : ρ[n]? = some none)
    (he : ∀ x, x ∈ xs → ∀ s H C cl fp c τ σ H1, St X.K c (ρ.set n (some (.d (enc x)))) τ σ H1 → ∀ (Ex : XK) (Q : VK), (∀ v H', good x → St X.K c (ρ.set n (some (.d (enc x)))) ((v, .tm (f x)) :: τ) σ H' → Q v H') → (∀ cls H', bad cls → St X.K c (ρ.set n (some (.d (enc x)))) τ σ H' → Ex cls none H') → teS (blkW X scope s H C cl fp Ex) elt σ H1 Q)
    (hz : xs.length ≤ 1000000) {c : Cst} {τ tmp : List (V × R)} {σ : L2.St} {H H1 : Hp} {J : It} (wk : WalksAt X.K ρ tmp J (xs.map enc)) (s1 : St X.K c ρ (tmp ++ τ) σ H1) {Q : VK} (q : (∀ x ∈ xs, good x) → ∀ v H', St X.K c ρ ((v, .tm (.lst (xs.map f))) :: τ) σ H' → Q v H') (Ex : XK) (hEx : ∀ cls H', bad cls → St X.K c ρ τ σ H' → Ex cls none H') :
    tLc (fun _ _ R => R J H1) (gName n) tYes (fun σ H Q => ∀ s H0 C cl fp, teS (blkW X scope s H0 C cl fp Ex) elt σ H Q) [n] σ H Q := by
  intro D0 hD
  have sStart : St X.K c ρ (tmp ++ (.ref D0, .tm (.lst [])) :: τ) σ (upd H1 D0 (.lst [])) := (s1.new hD fun G _ => .lst upd_same .nil).perm List.perm_middle.symm
  have hnσ : n < σ.length := by
    have := (List.getElem?_eq_some_iff.mp hρ).1
    rw [s1.len] at this; exact this
  refine ⟨fun i m H => m = xs.length - i ∧ i ≤ xs.length ∧ (∀ x ∈ xs.take i, good x) ∧ St X.K c ρ (tmp ++ (.ref D0, .tm (.lst ((xs.take i).map f))) :: τ) σ H, ⟨_, rfl, Nat.zero_le _, by simp, by simpa using sStart⟩, ?_⟩
  rintro i m H3 ⟨rfl, hle, hgood, s3⟩
  rcases Nat.lt_or_ge i xs.length with hlt | hge
  · obtain ⟨go, yl⟩ := (wk c _ σ H3 s3).1 i (enc xs[i]) (by rw [List.getElem?_map, List.getElem?_eq_getElem hlt]; rfl)
    refine .inr ⟨go, fun H' => (∀ x ∈ xs.take (i + 1), good x) ∧ St X.K c ρ (tmp ++ (.ref D0, .tm (.lst ((xs.take (i + 1)).map f))) :: τ) σ H', fun H' s' => ⟨xs.length - (i + 1), by omega, rfl, hlt, s'.1, s'.2⟩, fun v H4 y => ?_⟩
    have tk : xs.take (i + 1) = xs.take i ++ [xs[i]] := List.take_succ_eq_append_getElem hlt
    have s4 : St X.K c (ρ.set n (some (.d (enc xs[i])))) (tmp ++ (.ref D0, .tm (.lst ((xs.take i).map f))) :: τ) ((wipe σ [n]).set n (some v)) H4 := (((yl v H4 y).any (x := none) hρ)).storeP hρ
    have noP : ∀ (t : T), ∀ q ∈ (tmp ++ (.ref D0, .tm t) :: τ : List (V × R)), ∀ p, q.2 ≠ .pl n p := fun t q hq => by
      rcases List.mem_append.mp hq with z | z
      · exact s3.noPl hρ q (List.mem_append_left _ z)
      · rcases List.mem_cons.mp z with z | z
        · subst z; exact fun p e => nomatch e
        · exact s3.noPl hρ q (List.mem_append_right _ (List.mem_cons_of_mem _ z))
    have ret : ∀ (t : T) (H : Hp), St X.K c (ρ.set n (some (.d (enc xs[i])))) (tmp ++ (.ref D0, .tm t) :: τ) ((wipe σ [n]).set n (some v)) H → St X.K c ρ (tmp ++ (.ref D0, .tm t) :: τ) σ H := fun t H s5 => by
      have s6 := s5.back (x := σ[n]) hρ (noP t)
      have e : ((wipe σ [n]).set n (some v)).set n σ[n] = σ := by rw [wipe_one, List.set_set, List.set_set, List.set_getElem_self]
      rw [e] at s6
      exact s6
    refine ⟨by rw [wipe_one, wipe_one, List.set_set, List.set_set], ?_⟩
    unfold tYes
    simp only [if_true]
    intro s' H0' C' cl' fp'
    refine he _ (List.getElem_mem hlt) s' H0' C' cl' fp' c _ _ H4 s4 Ex _ (fun yv H6 hg s6 => ?_) (fun cls H6 hb s6 => ?_)
    · have s7 : St X.K c (ρ.set n (some (.d (enc xs[i])))) ((yv, .tm (f xs[i])) :: (.ref D0, .tm (.lst ((xs.take i).map f))) :: (tmp ++ τ)) ((wipe σ [n]).set n (some v)) H6 := s6.perm (List.Perm.cons _ List.perm_middle)
      obtain ⟨acc, a1, a2, s8⟩ := s7.grow
      have al : acc.length < sizeLine := by
        rw [a2, List.length_map, List.length_take, sizeLine_eq]
        omega
      refine ⟨acc, a1, al, fun x hx => ?_, ret _ _ ?_⟩
      · rw [tk] at hx
        rcases List.mem_append.mp hx with z | z
        · exact hgood x z
        · have : x = xs[i] := by simpa using z
          rw [this]; exact hg
      · rw [tk, List.map_append]
        exact s8.perm List.perm_middle.symm
    · exact hEx cls H6 hb (ret _ _ s6).dropN.pop
  · have e : i = xs.length := by omega
    subst e
    have z := (wk c _ σ H3 s3).2
    rw [List.length_map] at z
    rw [List.take_length] at s3 hgood
    exact .inl ⟨z, q hgood _ _ s3.dropN⟩
/-- y = [f(v) for v in ..], f may raise -/
theorem s_lcX {α : Type} {xs : List α} {enc : α → D} {scope : Scope} {j k : Nat} {nm y fn : Str} {pos' py spos pos pf pv pc : Pos} {f : α → T} {good : α → Prop} {bad : Value → Prop} {S : Spec} (m n : Nat) (Y : Bx X W j) (hi : EI X (.Name nm pos') ρ iter (xs.map enc)) (hρ : ρ[n]? = some none) (F : Kn X.prog X.w X.K X.mg X.base fn k S) (hr : Room k X.A)
    (ha : ∀ x, x ∈ xs → ∀ s H C cl fp Ex, EA (blkW X scope s H C cl fp Ex) (ρ.set n (some (.d (enc x)))) [.Name nm pv] [.d (enc x)]) (arg : α → S.α) (hx : ∀ x, x ∈ xs → S.enc (arg x) = [enc x] ∧ S.pre (arg x) ∧ (∀ t, S.post (arg x) t → good x ∧ t = f x) ∧ ∀ cls, S.exc (arg x) cls → bad cls)
    (h : (∀ x ∈ xs, good x) → Φ.nx (ρ.set m (some (.lst (xs.map f))))) (hE : ∀ cls, bad cls → Φ.ex cls ρ) (hz : xs.length ≤ 1000000)
    (hg : ∀ s H C cl fp Ex, Gl (blkW X scope s H C cl fp Ex) fn := by intro _ _ _ _ _ _; rfl) (hdb : (fn == ("__debug__" : Str)) = false := by decide)
    (he2 : ∀ s H C cl fp Ex, starEach [.Name nm pv] (blkW X scope s H C cl fp Ex).env = (false, eval (.Name nm pv) (blkW X scope s H C cl fp Ex).env) :: starEach [] (blkW X scope s H C cl fp Ex).env := by intro _ _ _ _ _ _; rfl) (hpl : ∀ s H C cl fp Ex, (backTo pc (starEach [] (blkW X scope s H C cl fp Ex).env)).any (·.1) = false := by intro _ _ _ _ _ _; rfl)
    (ok : BlkOk X.N X.env.scope scope [(nm, n)] := by exact blkOk_by (by first | decide +kernel | exact Eq.refl true)) (hn : X.N[n]? = some nm := by rfl)
    (hL : ∀ s H C cl fp, Loc (blkX X scope s H C cl fp).env.scope nm ∧ ((blkX X scope s H C cl fp).fn nm = true ∨ (blkX X scope s H C cl fp).env.scope.names.lookup nm = some .local) := by intro _ _ _ _ _; first | exact ⟨Or.inl rfl, Or.inr rfl⟩ | exact ⟨Or.inr rfl, Or.inl rfl⟩)
    (hs : ∀ x, foldedSetIterable iter X.env x = pure x := by intro _; rfl)
    (hm : Nat.ble (m + 1) ρ.length = true := by rfl) (hy : X.N[m]? = some y := by rfl) (hyl : X.env.scope.names.lookup y = some .local := by rfl) (hk : X.env.scope.kind = .function := by rfl) (hl : (py.line == pos.line) = true := by rfl) (hany : (scope.names.any fun (n, k) => n == y && (k == .local || k == .cell)) = false := by rfl)
    (hst : X.stack = X.env :: X.outer := by rfl) (hfr : X.env.frame = some X.env.locals := by rfl) :
    S1 X W ρ (.Assign [.Name y py] (.ListComp (.Call (.Name fn pf) [.Name nm pv] [] pc) [⟨.Name nm pos', iter, [], 0⟩] scope pos) spos) Φ := fun c τ σ H tm s D P => by
  refine ts_of (ps_setLcX (own := [(nm, n)]) (g := gName n) (te := fun Ex σ H Q => ∀ s H0 C cl fp, teS (blkW X scope s H0 C cl fp Ex) (.Call (.Name fn pf) [.Name nm pv] [] pc) σ H Q) Y.calm Y.nd hst hfr Y.takes hy hyl (sw_true hk hyl hl hany) piSS ok
    (fun s H C cl fp => pg_name (X := blkX X scope s H C cl fp) Y.nd hn (hL s H C cl fp).1 (hL s H C cl fp).2) (fun s H C cl fp Ex => ⟨fun pins s0 σ H1 Q I h => h s H C cl fp pins s0 I⟩) hs) ?_
  refine ⟨fun cls d H' => d = none ∧ bad cls ∧ St X.K c ρ τ σ H', fun cls d H' ⟨ed, hb, s'⟩ => by subst ed; exact P.ex _ _ _ _ (hE cls hb) s', ?_⟩
  refine hi.c c τ σ H s _ fun J H1 tmp wk s1 => ?_
  exact lcX_tail (H := H) (Q := fun x H1 => gName m x σ H1 D.nx) n hρ (fun x hxm s0 H0 C cl fp c τ σ H1 sx Ex Q hQ hEx => by
    obtain ⟨x1, x2, x3, x4⟩ := hx x hxm
    refine call_genB F hr (ha x hxm s0 H0 C cl fp Ex) (arg x) (by rw [x1]; rfl) x2 sx (fun t ht v H' s' => ?_) (fun cls hc H' s' => hEx cls H' (x4 cls hc) s') (hg s0 H0 C cl fp Ex) hdb (he2 s0 H0 C cl fp Ex) (hpl s0 H0 C cl fp Ex)
    obtain ⟨y1, rfl⟩ := x3 t ht
    exact hQ v H' y1 s') hz wk s1 (fun hg v H' s' => P.nx _ _ _ (h hg) (s'.store (Nat.le_of_ble_eq_true hm) tm)) _ fun cls H' hb s' => ⟨rfl, hb, s'⟩
end
end DL
namespace DL
open PySem PySem.Spec PyProof.Rows L2
section
variable {X : Cx} {W : WX} {ρ : Rho} {Φ : Ph} {a iter : Expr} {pos : Pos}
theorem e_sliceS {lo hi : Option Expr} {l h : Option Int} {p2 : Pos} {z : Str} (he : E X ρ a (.tm (.d (.str z)))) (hz : z.length ≤ sizeLine) (h1 : Part X ρ lo l) (h2 : Part X ρ hi h) : E X ρ (.Subscript a (.Slice lo hi none p2) pos) (.tm (.d (.str (cutS z l h)))) := fun c τ σ H s Q q =>
  te_of (pe_slice sl_str peS poSS poSS) (he c τ σ H s _ fun v H1 s1 => h1.run s1 fun H2 s2 => h2.run s2 fun H3 s3 => by
    obtain rfl := s3.vstr
    exact ⟨z, rfl, hz, q _ _ (s3.pop.push fun _ => .str _)⟩)
/-- for, whatever is let out -/
theorem s_forC {α : Type} {xs : List α} {enc : α → D} {body : List Stmt} (n : Nat) {nm : Str} {pos' : Pos} (hcalm : X.calm = true) (nd : X.N.Nodup) (hps : PassesOwn (model X.prog X.w) X.A X.env X.xe) (hi : EI X (.Name nm pos') ρ iter (xs.map enc)) (Iv : Nat → Rho → Prop) (h0 : Iv 0 ρ) (hlen : ∀ i ρ', Iv i ρ' → n < ρ'.length)
    (hb : ∀ i x ρ', xs[i]? = some x → Iv i ρ' → S X W (ρ'.set n (some (.d (enc x)))) body { Φ with nx := Iv (i + 1), ct := Iv (i + 1), bk := Φ.nx }) (hd : ∀ ρ', Iv xs.length ρ' → Φ.nx ρ')
    (hn : X.N[n]? = some nm := by rfl) (hx : Loc X.env.scope nm := by first | exact Or.inl rfl | exact Or.inr rfl) (hs : ∀ x, foldedSetIterable iter X.env x = pure x := by intro _; rfl)
    (hf : X.fn nm = true ∨ X.env.scope.names.lookup nm = some .local := by first | exact .inl rfl | exact .inr rfl | assumption) : S1 X W ρ (.For (.Name nm pos') iter body [] pos) Φ := fun c τ σ H tm s D P =>
  ts_of (ps_for hps hcalm piSS (pg_name nd hn hx hf) pbS hs) (hi c τ σ H s _ fun J H1 tmp tmO wk s1 => by
    refine ⟨fun i m σ H => m = xs.length - i ∧ i ≤ xs.length ∧ ∃ ρ', Iv i ρ' ∧ St X.K c ρ' (tmp ++ τ) σ H, ⟨_, rfl, Nat.zero_le _, ρ, h0, s1⟩, ?_⟩
    rintro i m σ2 H2 ⟨rfl, hi, ρ', iv, s2⟩
    by_cases hlt : i < xs.length
    · obtain ⟨go, yl⟩ := (wk c ρ' τ σ2 H2 s2).1 i (enc xs[i]) (by rw [List.getElem?_map, List.getElem?_eq_getElem hlt]; rfl)
      refine .inr ⟨go, fun σ' H' => ∃ ρ'', Iv (i + 1) ρ'' ∧ St X.K c ρ'' (tmp ++ τ) σ' H', fun σ' H' ⟨ρ'', iv', s'⟩ => ⟨xs.length - (i + 1), by omega, rfl, hlt, ρ'', iv', s'⟩, fun v H3 y => ?_⟩
      have s3 := (yl v H3 y).store (i := n) (hlen i ρ' iv) (tmO.app tm)
      refine hb i _ ρ' (List.getElem?_eq_getElem hlt) iv c (tmp ++ τ) _ H3 (tmO.app tm) s3 _ ⟨fun ρ4 σ4 H4 q s4 => ⟨ρ4, q, s4⟩, fun t ρ4 v σ4 H4 q s4 => P.rt t ρ4 v σ4 H4 q s4.dropMid, fun ρ4 σ4 H4 q s4 => P.nx ρ4 σ4 H4 q s4.dropN, fun ρ4 σ4 H4 q s4 => ⟨ρ4, q, s4⟩, fun cls ρ4 σ4 H4 q s4 => P.ex cls ρ4 σ4 H4 q s4.dropN⟩
    · have e : i = xs.length := by omega
      subst e
      have z := (wk c ρ' τ σ2 H2 s2).2
      rw [List.length_map] at z
      exact .inl ⟨z, P.nx ρ' σ2 H2 (hd ρ' iv) s2.dropN⟩)
/-- raise X('..'), its context None -/
theorem s_raiseN {C : Addr} {bmB : List Value} {B newId initId : String} {x m : Str} {j : Nat} {p p2 pos2 : Pos} (hc : X.calm = true) (tk : L2N.Takes X W) (F : ExcBaseFacts B newId initId bmB) (q : PySem.W.excIn X.K C bmB newId = true) (gC : X.mg x = some (.ref C)) (kC : PySem.W.keepIn X.K (.ref C) = true) (r : Raises X (.ref C))
    (h : Φ.ex (.ref C) ρ) (hg : Gl X x := by rfl) (hdb : (x == ("__debug__" : Str)) = false := by decide) : S1 X W ρ (.Raise (some (.Call (.Name x p) [.Constant (.str m) j p2] [] pos)) none pos2) Φ := fun c τ σ H tm s D P =>
  ts_of (L2N.ps_raise hc tk (L2N.pmk_own F q gC kC r hg hdb)) (P.ex _ _ _ _ h s)
/-- try .. except X: raise Y('..') -/
theorem s_tryRaise {C : Addr} {bmB : List Value} {B newId initId : String} {k j : Nat} {nx x m : Str} {c0 : Value} {body : List Stmt} {np pos' p p2 p3 pos2 : Pos} (Y : Bx X W k) (hc : Names X nx c0) (hpa : ∀ hd : Option Value, PassesOwnAt (model X.prog X.w) (X.A.mark hd) X.A X.env X.xe)
    (F : ExcBaseFacts B newId initId bmB) (q : PySem.W.excIn X.K C bmB newId = true) (gC : X.mg x = some (.ref C)) (kC : PySem.W.keepIn X.K (.ref C) = true) (r : Raises X (.ref C)) (h : Φ.ex (.ref C) ρ)
    (hb : ∀ W' pn xe, L2N.Takes (X.tr pn xe) W' → Bx (X.tr pn xe) (L2H.wPass X.K c0 W) k → ∀ c τ σ H, TmOnly τ → St X.K c ρ τ σ H → ∀ D, Post X.K W Φ c τ D →
      (∀ cls σ' H', PySem.W.exmOne X.K cls c0 = some true → St X.K c ρ τ σ' H' → W' cls none σ' H') → tbS (X.tr pn xe) body D σ H)
    (hg : Gl X x := by rfl) (hdb : (x == ("__debug__" : Str)) = false := by decide)
    (hst : X.stack = X.env :: X.outer := by rfl) (hfr : X.env.frame = some X.env.locals := by rfl) :
    S1 X W ρ (.Try body [.ExceptHandler (some (.Name nx np)) none [.Raise (some (.Call (.Name x p) [.Constant (.str m) j p2] [] p3)) none pos2] pos'] [] [] pos) Φ := fun c τ σ H tm s D P => by
  refine ts_of (L2H.ps_try_onlyX (tb := fun W' D σ H => ∀ pn xe, L2N.Takes (X.tr pn xe) W' → L2.Takes (X.tr pn xe) (L2H.wPass X.K c0 W) → PassesOwn (model X.prog X.w) X.A X.env xe → tbS (X.tr pn xe) body D σ H)
    (ts := fun a cls d D σ H => W (.ref C) none σ H) (Wout := W) hst hfr hc hpa Y.takes
    (fun W' pn xe tk tk2 ps => ⟨fun pins s0 σ H D I h => h pn xe tk tk2 ps pins s0 I⟩)
    (fun a oe cls d pn hz hf tk hot => pss_one (L2H.ps_raiseH hot tk (L2N.pmk_own (X := L2H.suiteX X a ((a, oe) :: pn)) F q gC kC r hg hdb)))) ?_
  intro pn xe tk tk2 ps
  exact hb _ pn xe tk ⟨Y.calm, Y.nd, tk2, ps, Y.room⟩ c τ σ H tm s D P fun cls σ' H' e s' => ⟨true, e, fun _ a na => P.ex _ _ _ _ h s', fun z => by cases z⟩
end
end DL
namespace W
open PySem L2
def top (i : Nat) : Stmt := PySem.Challenge.pw_haltline_k13_texts_refused.main.body.getD i (.Pass ⟨0, 0, 0, 0⟩)
abbrev s_Line_init : Stmt := inClass (top 9) 0
abbrev n_Line_init : List Str := ["self", "runs", "clear", "run"]
theorem sc_Line_init : FnScope n_Line_init ["self", "runs", "clear"] (defScope s_Line_init) := ⟨rfl, rfl, rfl, by decide +kernel, rfl, by decide +kernel, by decide +kernel⟩
abbrev s_Line_runs : Stmt := inClass (top 9) 1
abbrev n_Line_runs : List Str := ["self"]
theorem sc_Line_runs : FnScope n_Line_runs ["self"] (defScope s_Line_runs) := ⟨rfl, rfl, rfl, by decide +kernel, rfl, by decide +kernel, by decide +kernel⟩
abbrev s_Line_clear : Stmt := inClass (top 9) 2
abbrev n_Line_clear : List Str := ["self"]
theorem sc_Line_clear : FnScope n_Line_clear ["self"] (defScope s_Line_clear) := ⟨rfl, rfl, rfl, by decide +kernel, rfl, by decide +kernel, by decide +kernel⟩
abbrev s_number_of : Stmt := top 12
abbrev n_number_of : List Str := ["word", "sign"]
theorem sc_number_of : FnScope n_number_of ["word"] (defScope s_number_of) := ⟨rfl, rfl, rfl, by decide +kernel, rfl, by decide +kernel, by decide +kernel⟩
abbrev s_read : Stmt := top 13
abbrev n_read : List Str := ["text", "words", "runs", "word"]
theorem sc_read : FnScope n_read ["text"] (defScope s_read) := ⟨rfl, rfl, rfl, by decide +kernel, rfl, by decide +kernel, by decide +kernel⟩
abbrev s__law_drawn : Stmt := top 15
abbrev n__law_drawn : List Str := ["script", "k", "many", "cell", "stir"]
theorem sc__law_drawn : FnScope n__law_drawn ["script", "k", "many"] (defScope s__law_drawn) := ⟨rfl, rfl, rfl, by decide +kernel, rfl, by decide +kernel, by decide +kernel⟩
abbrev s__law_whole : Stmt := top 16
abbrev n__law_whole : List Str := ["found"]
theorem sc__law_whole : FnScope n__law_whole ["found"] (defScope s__law_whole) := ⟨rfl, rfl, rfl, by decide +kernel, rfl, by decide +kernel, by decide +kernel⟩
abbrev s__law_row : Stmt := top 17
abbrev n__law_row : List Str := ["found", "due", "k"]
theorem sc__law_row : FnScope n__law_row ["found", "due"] (defScope s__law_row) := ⟨rfl, rfl, rfl, by decide +kernel, rfl, by decide +kernel, by decide +kernel⟩
abbrev s__law_rows : Stmt := top 18
abbrev n__law_rows : List Str := ["found", "due", "k"]
theorem sc__law_rows : FnScope n__law_rows ["found", "due"] (defScope s__law_rows) := ⟨rfl, rfl, rfl, by decide +kernel, rfl, by decide +kernel, by decide +kernel⟩
abbrev s__law_line_by : Stmt := top 19
abbrev n__law_line_by : List Str := ["script", "base", "many", "runs", "k"]
theorem sc__law_line_by : FnScope n__law_line_by ["script", "base"] (defScope s__law_line_by) := ⟨rfl, rfl, rfl, by decide +kernel, rfl, by decide +kernel, by decide +kernel⟩
abbrev s__law_trains_by : Stmt := top 20
abbrev n__law_trains_by : List Str := ["script", "base", "stretches", "most", "trains", "k", "start", "goal"]
theorem sc__law_trains_by : FnScope n__law_trains_by ["script", "base", "stretches", "most"] (defScope s__law_trains_by) := ⟨rfl, rfl, rfl, by decide +kernel, rfl, by decide +kernel, by decide +kernel⟩
abbrev s__law_way : Stmt := top 21
abbrev n__law_way : List Str := ["train", "k"]
theorem sc__law_way : FnScope n__law_way ["train"] (defScope s__law_way) := ⟨rfl, rfl, rfl, by decide +kernel, rfl, by decide +kernel, by decide +kernel⟩
abbrev s__law_users : Stmt := top 22
abbrev n__law_users : List Str := ["stretches", "trains", "k", "stretch"]
theorem sc__law_users : FnScope n__law_users ["stretches", "trains"] (defScope s__law_users) := ⟨rfl, rfl, rfl, by decide +kernel, rfl, by decide +kernel, by decide +kernel⟩
abbrev s__law_number : Stmt := top 23
abbrev n__law_number : List Str := ["word", "letter"]
theorem sc__law_number : FnScope n__law_number ["word"] (defScope s__law_number) := ⟨rfl, rfl, rfl, by decide +kernel, rfl, by decide +kernel, by decide +kernel⟩
abbrev s__law_due : Stmt := top 24
abbrev n__law_due : List Str := ["signs", "words", "runs", "gap", "word"]
theorem sc__law_due : FnScope n__law_due ["signs"] (defScope s__law_due) := ⟨rfl, rfl, rfl, by decide +kernel, rfl, by decide +kernel, by decide +kernel⟩
abbrev s__law_sign_by : Stmt := top 25
abbrev n__law_sign_by : List Str := ["script", "some"]
theorem sc__law_sign_by : FnScope n__law_sign_by ["script"] (defScope s__law_sign_by) := ⟨rfl, rfl, rfl, by decide +kernel, rfl, by decide +kernel, by decide +kernel⟩
abbrev s__law_spoilt : Stmt := top 26
abbrev n__law_spoilt : List Str := ["script", "runs", "gap", "words", "shown", "mode", "at", "k", "odd", "run"]
theorem sc__law_spoilt : FnScope n__law_spoilt ["script", "runs", "gap"] (defScope s__law_spoilt) := ⟨rfl, rfl, rfl, by decide +kernel, rfl, by decide +kernel, by decide +kernel⟩
abbrev s_law : Stmt := top 27
abbrev n_law : List Str := ["script", "made", "signs", "due", "found", "e", "marks"]
theorem sc_law : FnScope n_law ["script"] (defScope s_law) := ⟨rfl, rfl, rfl, by decide +kernel, rfl, by decide +kernel, by decide +kernel⟩
end W
namespace DL
open PySem PySem.Spec PyProof.Rows L2
structure Bt (mg : Str → Option Value) : Prop where
  len : mg "len" = none
  range : mg "range" = none
  list : mg "list" = none
  min : mg "min" = none
  max : mg "max" = none
  sorted : mg "sorted" = none
  isinstance : mg "isinstance" = none
  int : mg "int" = none
  bool : mg "bool" = none
  abs : mg "abs" = none
  str : mg "str" = none
  set : mg "set" = none
  tuple : mg "tuple" = none
  reversed : mg "reversed" = none
  enumerate : mg "enumerate" = none
/-- an exception class of the text's own -/
structure ExF (K : PySem.W.Frag) (mg : Str → Option Value) (nm : Str) : Prop where
  g : mg nm = some (.ref (He.ga K nm))
  x : PySem.W.excIn K (He.ga K nm) He.veBase "ValueError.__new__" = true
  k : PySem.W.keepIn K (.ref (He.ga K nm)) = true
  b : PySem.W.subIn K (.ref (He.ga K nm)) (.type "BaseException") = some true
  t : PySem.W.typeIn K (.ref (He.ga K nm)) = some (.type "type")
section
variable {X : Cx} {W : WX} {ρ : Rho} {Φ : Ph} {k : Nat}
theorem s_rz {nm m : Str} {j : Nat} {p p2 pos pos2 : Pos} (Y : Bx X W k) (x : ExF X.K X.mg nm) (h : Φ.ex (.ref (He.ga X.K nm)) ρ) (hg : Gl X nm := by rfl) (hdb : (nm == ("__debug__" : Str)) = false := by decide) :
    S1 X W ρ (.Raise (some (.Call (.Name nm p) [.Constant (.str m) j p2] [] pos)) none pos2) Φ := s_raise Y PySem.F.excBase_ValueError x.x x.g x.k (raises_own x.b x.t) h hg hdb
end
/-- a module's int -/
def IntG (mg : Str → Option Value) (nm : Str) (i : Int) : Prop := ∃ t, mg nm = some (.int i t)
theorem e_gi {X : Cx} {ρ : Rho} {nm : Str} {i : Int} {pos : Pos} (h : IntG X.mg nm i) (hg : Gl X nm := by rfl) (hd : (nm == ("__debug__" : Str)) = false := by decide) : E X ρ (.Name nm pos) (.tm (.d (.int i))) := let ⟨_, h⟩ := h; e_gint h hg hd

abbrev Tr := Int × Int × Int
def dTr (t : Tr) : D := .tup [.int t.1, .int t.2.1, .int t.2.2]
def dIs (xs : List Int) : D := .lst (xs.map D.int)
def dLn (C : Addr) (runs : List Int) (gap : Int) : D := .obj C [("minutes", dIs runs), ("gap", .int gap)]
structure LnF (K : PySem.W.Frag) (mg : Str → Option Value) : Prop where
  g : mg "Line" = some (.ref (He.ga K "Line"))
  cls : Cls K (He.ga K "Line")
  nm : NoAttr K (He.ga K "Line") "minutes"
  ng : NoAttr K (He.ga K "Line") "gap"
abbrev cLn (K : PySem.W.Frag) : Addr := He.ga K "Line"
section
variable {X : Cx} {ρ : Rho} {a : Expr} {runs : List Int} {gap : Int} {pos : Pos}
theorem ln_min (L : LnF X.K X.mg) (ha : E X ρ a (.tm (.d (dLn (cLn X.K) runs gap)))) (hb : attributeBase a "minutes" X.env (eval a X.env) = eval a X.env := by rfl) : E X ρ (.Attribute a "minutes" pos) (.tm (.d (dIs runs))) := e_fld L.cls L.nm ha rfl hb
theorem gap_ne : (("gap" : Str) == ("minutes" : Str)) = false := by decide +kernel
theorem ln_gap (L : LnF X.K X.mg) (ha : E X ρ a (.tm (.d (dLn (cLn X.K) runs gap)))) (hb : attributeBase a "gap" X.env (eval a X.env) = eval a X.env := by rfl) : E X ρ (.Attribute a "gap" pos) (.tm (.d (.int gap))) :=
  e_fld L.cls L.ng ha (by simp [List.lookup, gap_ne]) hb
end

def okTr (n : Nat) (t : Tr) : Prop := t.1 ≠ t.2.1 ∧ 0 ≤ t.1 ∧ t.1 ≤ n ∧ 0 ≤ t.2.1 ∧ t.2.1 ≤ n ∧ 0 ≤ t.2.2 ∧ t.2.2 ≤ 60
instance (n : Nat) (t : Tr) : Decidable (okTr n t) := by unfold okTr; exact inferInstance
def spSeeTrain (K : PySem.W.Frag) : Spec where
  α := (List Int × Int) × Tr
  enc := fun x => [dLn (cLn K) x.1.1 x.1.2, dTr x.2]
  pre := fun _ => True
  post := fun x t => okTr x.1.1.length x.2 ∧ t = .d .non
  exc := fun x c => ¬ okTr x.1.1.length x.2 ∧ c = .ref (He.ga K "BadTrains")
/-- the stretches of a way -/
def wayOf (t : Tr) : List Int := if t.1 < t.2.1 then (List.range (t.2.1 - t.1).toNat).map fun k : Nat => t.1 + (k : Int) else (List.range (t.1 - t.2.1).toNat).map fun k : Nat => t.1 - 1 - (k : Int)
section
variable {P : Program} {w : World} {K : PySem.W.Frag} {mg : Str → Option Value} {base : Heap} {f : Addr} {fd : FuncData}
end
end DL
namespace DL
open PySem PySem.Spec PyProof.Rows L2
theorem E.use {X : Cx} {ρ : Rho} {e : Expr} {r : R} {c : Cst} {τ : List (V × R)} {σ : L2.St} {H : Hp} {Q : VK} (h : E X ρ e r) (s : St X.K c ρ τ σ H) (q : ∀ v H', St X.K c ρ ((v, r) :: τ) σ H' → Q v H') : teS X e σ H Q := h c τ σ H s Q q
theorem S1.use {X : Cx} {W : WX} {ρ : Rho} {st : Stmt} {Φ : Ph} {c : Cst} {τ : List (V × R)} {σ : L2.St} {H : Hp} {D : Ends} (h : S1 X W ρ st Φ) (s : St X.K c ρ τ σ H) (tm : TmOnly τ) (P : Post X.K W Φ c τ D) : tsS X st D σ H := h c τ σ H tm s D P
def okLn (runs : List Int) (gap : Int) : Prop := 1 ≤ runs.length ∧ runs.length ≤ 5 ∧ 0 ≤ gap ∧ gap ≤ 5 ∧ ∀ r ∈ runs, 1 ≤ r ∧ r ≤ 20
instance (runs : List Int) (gap : Int) : Decidable (okLn runs gap) := by unfold okLn; exact inferInstance
def lnF (l : Addr) (gap : Int) : List (Str × V) := [("minutes", .ref l), ("gap", .int gap)]
def spInit (K : PySem.W.Frag) : Sp := fun vs H Q E => ∃ (p dx : Addr) (G : Hp) (runs : List Int) (gap : Int) (v : V), vs = [.ref p, v, .int gap] ∧ H p = some (.ins (cLn K) dx []) ∧ Same G H ∧ Dr K G v (dIs runs) ∧
  (okLn runs gap → ∀ l H', H l = none → H' p = some (.ins (cLn K) dx (lnF l gap)) → H' l = some (.lst (runs.map V.int)) → (∀ b o, H b = some o → b ≠ p → H' b = some o) → Q .non H') ∧
  (¬ okLn runs gap → ∀ H', Same H H' → E (.ref (He.ga K "BadLine")) none H')
section
variable {P : Program} {w : World} {K : PySem.W.Frag} {mg : Str → Option Value} {base : Heap} {f : Addr} {fd : FuncData}
theorem gap_ne' : ¬ (("minutes" : Str) = "gap") := by decide +kernel
theorem ok_init (F : Fun K "__init__" "Line.__init__" W.s_Line_init f fd) (B : Bt mg) (L : LnF K mg) (x : ExF K mg "BadLine") (i1 : IntG mg "MOST_STRETCHES" 5) (i2 : IntG mg "MOST_RUN" 20) (i3 : IntG mg "MOST_CLEAR" 5) :
    FnOk P w K mg base (L2.CX P w) 1 f fd ["self", "runs", "clear"] (spInit K) := by
  refine F.okX W.sc_Line_init (fun vs H Q E h => ?_) (fun cdv A outer s H vs Q E hr h => ?_)
  · obtain ⟨p, dx, G, runs, gap, v, rfl, _⟩ := h
    rfl
  · obtain ⟨p, dx, G, runs, gap, v, rfl, hp, sb, dv, kQ, kE⟩ := h
    refine ⟨_, pss_cons psS (pss_cons psS (pss_cons (ps_fld (pv 0) peS rfl) (pss_one (ps_fld (pv 0) (pv 2) rfl)))), ?_⟩
    generalize hX : cxOf (L2.CX P w) P w K mg base W.n_Line_init "Line.__init__" (defScope W.s_Line_init) f cdv A outer s H E = X
    have Y : Bx X (fun cls d _ H => E cls d H) 0 := by
      rw [← hX]; exact ⟨rfl, W.sc_Line_init.nd, takes_of rfl rfl rfl rfl, passes_of rfl, hr⟩
    have hK : X.K = K := by rw [← hX]; rfl
    subst hX
    have nd := Y.nd
    have s0 : St K ⟨H, G, []⟩ [some (.d (.adr p)), some (.d (dIs runs)), some (.d (.int gap)), none] [] [some (.ref p), some v, some (.int gap), none] H :=
      ⟨G, [], [], ⟨sb, Same.refl _, fun a o q => .inl ⟨o, q⟩, fun a o q _ => q, fun a o q => ⟨o, q⟩, List.nodup_nil, fun a m => nomatch m⟩, .som (.d (.adr p)) (.som (.d dv) (.som (.d (.int gap)) (.non .nil))), .nil⟩
    -- the first two statements
    have h1 : S1 _ (fun cls d _ H => E cls d H) [some (.d (.adr p)), some (.d (dIs runs)), some (.d (.int gap)), none] ((defBody W.s_Line_init).getD 0 (.Pass ⟨0, 0, 0, 0⟩))
        { nx := fun ρ => ρ = [some (.d (.adr p)), some (.d (dIs runs)), some (.d (.int gap)), none] ∧ 1 ≤ runs.length ∧ runs.length ≤ 5 ∧ 0 ≤ gap ∧ gap ≤ 5, ex := fun cls _ => ¬ okLn runs gap ∧ cls = .ref (He.ga K "BadLine") } :=
      s_if (X := cxOf (L2.CX P w) P w K mg base W.n_Line_init "Line.__init__" (defScope W.s_Line_init) f cdv A outer s H E) (t_w (w_or (t_cmp (c_lt (e_len B.len (e_var 1)) e_int)) fun h => w_or (t_cmp (c_gt (e_len B.len (e_var 1)) (e_gi i1))) fun h => w_or (t_cmp (c_lt (e_var 2) e_int)) fun h => w_or1 (t_cmp (c_gt (e_var 2) (e_gi i3))))) (fun h => s_one (s_rz Y x ⟨fun z => by
          obtain ⟨z0, z1, z2, z3, _⟩ := z
          simp at h
          omega, rfl⟩)) (fun h => s_nil ⟨rfl, by simp at h; omega⟩)
    refine h1 ⟨H, G, []⟩ [] _ H TmOnly.nil s0 _ ⟨fun ρ σ1 H1 q1 s1 => ?_, fun _ _ _ _ _ z => z.elim, fun _ _ _ z => z.elim, fun _ _ _ z => z.elim, fun cls ρ σ1 H1 q1 s1 => ?_⟩
    rotate_left
    · obtain ⟨G1, fs, ft, C, _, _⟩ := s1
      rw [q1.2]
      exact kE q1.1 H1 fun a o e => C.prot a o e fun z => nomatch z
    obtain ⟨rfl, c1, c2, c3, c4⟩ := q1
    have h2 : S1 _ (fun cls d _ H => E cls d H) [some (.d (.adr p)), some (.d (dIs runs)), some (.d (.int gap)), none] ((defBody W.s_Line_init).getD 1 (.Pass ⟨0, 0, 0, 0⟩))
        { nx := fun ρ => (∃ y, ρ = [some (.d (.adr p)), some (.d (dIs runs)), some (.d (.int gap)), y]) ∧ okLn runs gap, ex := fun cls _ => ¬ okLn runs gap ∧ cls = .ref (He.ga K "BadLine") } :=
      s_for (X := cxOf (L2.CX P w) P w K mg base W.n_Line_init "Line.__init__" (defScope W.s_Line_init) f cdv A outer s H E) (xs := runs) (enc := D.int) 3 Y (i_list (e_var 1)) (fun i ρ => (∃ y, ρ = [some (.d (.adr p)), some (.d (dIs runs)), some (.d (.int gap)), y]) ∧ ∀ r ∈ runs.take i, 1 ≤ r ∧ r ≤ 20)
        ⟨⟨_, rfl⟩, by simp⟩ (fun i ρ h => by obtain ⟨⟨y, rfl⟩, _⟩ := h; show 3 < 4; decide) (fun i r ρ hr h => by
          obtain ⟨⟨y, rfl⟩, hall⟩ := h
          refine s_one (s_if (t_w (w_or (t_cmp (c_lt (e_var 3) e_int)) fun h => w_or1 (t_cmp (c_gt (e_var 3) (e_gi i2))))) (fun h => s_one (s_rz Y x ⟨fun z => ?_, rfl⟩)) (fun h => s_nil ⟨⟨_, rfl⟩, ?_⟩))
          · have := z.2.2.2.2 r (List.mem_of_getElem? hr)
            simp at h
            omega
          · intro q hq
            rw [List.take_succ, hr] at hq
            rcases List.mem_append.mp hq with hq | hq
            · exact hall q hq
            · have e : q = r := by simpa using hq
              subst e
              simp at h
              omega) fun ρ h => ⟨h.1, c1, c2, c3, c4, by simpa using h.2⟩
    refine h2 ⟨H, G, []⟩ [] _ H1 TmOnly.nil s1 _ ⟨fun ρ σ2 H2 q2 s2 => ?_, fun _ _ _ _ _ z => z.elim, fun _ _ _ z => z.elim, fun _ _ _ z => z.elim, fun cls ρ σ2 H2 q2 s2 => ?_⟩
    rotate_left
    · obtain ⟨G1, fs, ft, C, _, _⟩ := s2
      rw [q2.2]
      exact kE q2.1 H2 fun a o e => C.prot a o e fun z => nomatch z
    obtain ⟨⟨y, rfl⟩, ok⟩ := q2
    -- self.minutes = list(runs)
    refine DL.E.use (e_list B.list (e_var 1) rfl .d) s2 fun u H3 s3 => ?_
    obtain ⟨v0, e0, s4⟩ := s3.pop.var (i := 0) rfl
    obtain rfl := s4.vadr
    obtain ⟨v2, e2, s5⟩ := s3.pop.var (i := 2) rfl
    obtain rfl := s5.vint
    obtain ⟨l, hl, hl0, keep⟩ : ∃ l, u = .ref l ∧ (H3 l = some (.lst (runs.map V.int)) ∧ H l = none) ∧ Same H H3 := by
      obtain ⟨G', fs, ft, C, _, M⟩ := s3
      cases M with | tm m1 m2 =>
      obtain ⟨l, vs, g, q1, q2, q3, q4⟩ := m1.is_lst
      have q5 := (Owns.ds rfl q4).1.ints
      subst q2 q5
      refine ⟨l, q1, ⟨q3, ?_⟩, fun a o e => C.prot a o e fun z => nomatch z⟩
      exact (C.own l (by simp)).2.resolve_left fun z => nomatch z
    subst hl
    obtain ⟨hl3, hl0⟩ := hl0
    have hp3 := keep _ _ hp
    have npl : l ≠ p := fun z => by rw [z, hp] at hl0; cases hl0
    refine ⟨_, e0, p, cLn K, dx, [], rfl, hp3, L.cls, L.nm, by decide, _, e2, _, e0, p, cLn K, dx, _, rfl, upd_same, L.cls, L.ng, by show 1 < 1000; decide, ?_⟩
    refine kQ ok l _ hl0 ?_ ?_ fun b o e hb => ?_
    · rw [upd_same]
      refine congrArg (fun z => some (HO.ins (cLn K) dx z)) ?_
      show (if ("minutes" : Str) = "gap" then _ else (("minutes" : Str), V.ref l) :: putF "gap" (V.int gap) []) = _
      rw [if_neg gap_ne']
      rfl
    · rw [upd_ne npl, upd_ne npl]; exact hl3
    · rw [upd_ne hb, upd_ne hb]; exact keep b o e
end
/-- the class Line as it is called -/
structure KLn (P : Program) (w : World) (K : PySem.W.Frag) (mg : Str → Option Value) (base : Heap) : Prop where
  ln : LnF K mg
  mkr : ∃ (fI : Addr) (fd : FuncData), Mk K (cLn K) fI ∧ FnOk P w K mg base (L2.CX P w) 1 fI fd ["self", "runs", "clear"] (spInit K) ∧ Binds K fd ["self", "runs", "clear"] []
def tIs (xs : List Int) : T := .lst ((xs.map D.int).map T.d)
def tLn (C : Addr) (runs : List Int) (gap : Int) : T := .obj C [("minutes", tIs runs), ("gap", .d (.int gap))]
theorem tIs_toD (xs : List Int) : (tIs xs).toD = dIs xs := by
  show D.lst (T.toDs ((xs.map D.int).map T.d)) = _
  rw [T.toDs_d]; rfl
theorem tLn_toD (C : Addr) (runs : List Int) (gap : Int) : (tLn C runs gap).toD = dLn C runs gap := by
  show D.obj C [("minutes", (tIs runs).toD), ("gap", .int gap)] = _
  rw [tIs_toD]; rfl
theorem tIs_flat (xs : List Int) : (tIs xs).flat = true := by
  show T.flats ((xs.map D.int).map T.d) = true
  rw [T.flats_all, List.all_eq_true]
  intro t ht
  obtain ⟨d, hd, rfl⟩ := List.mem_map.mp ht
  obtain ⟨i, _, rfl⟩ := List.mem_map.mp hd
  rfl
theorem tLn_flat (C : Addr) (runs : List Int) (gap : Int) : (tLn C runs gap).flat = true := by
  show ((tIs runs).flat && (true && true)) = true
  rw [tIs_flat]; rfl
section
variable {X : Cx} {W : WX} {ρ : Rho} {Φ : Ph} {a b : Expr} {runs : List Int} {gap : Int} {pos p : Pos} {j : Nat} {ra rb : R} {ta tb : T}
theorem line_gen (Z : KLn X.prog X.w X.K X.mg X.base) (hr : Room 2 X.A) (tk : Takes X W) (ha : E X ρ a ra) (hb : E X ρ b rb) (va : view ρ ra = some ta) (vb : view ρ rb = some tb) (ea : ta.toD = dIs runs) (eb : tb.toD = .int gap) {c : Cst} {τ : List (V × R)} {σ : L2.St} {H : Hp} (s : St X.K c ρ τ σ H) {Q : VK}
    (hQ : okLn runs gap → ∀ v H', St X.K c ρ ((v, .tm (tLn (cLn X.K) runs gap)) :: τ) σ H' → Q v H') (hE : ¬ okLn runs gap → ∀ H', St X.K c ρ τ σ H' → W (.ref (He.ga X.K "BadLine")) none σ H') (hg : Gl X "Line" := by rfl)
    (he : starEach (a :: [b]) X.env = (false, eval a X.env) :: starEach [b] X.env := by rfl) (he2 : starEach [b] X.env = (false, eval b X.env) :: starEach [] X.env := by rfl) (hpl : (backTo pos (starEach [b] X.env)).any (·.1) = false := by rfl) : teS X (.Call (.Name "Line" p) [a, b] [] pos) σ H Q := by
  obtain ⟨fI, fd, M, F, hb0⟩ := Z.mkr
  intro pins s0 I
  refine wpAny_Call_Name_kw (ld_glob I hg Z.ln.g ?_)
  have args := (paS (X := X) (es := [a, b])).run pos pins s0 σ H (fun vs H1 => vs.length = 2 ∧ St X.K c ρ ((vs.zip [ra, rb]).reverse ++ τ) σ H1) I (er_cons ha (er_cons hb er_nil he2) he c τ σ H s _ fun vs H1 hl s1 => ⟨hl, s1⟩)
  refine PySem.W.callWith_K (h₀ := X.base) I.ok.mod.kin M.kp (thn args fun us s1 hh => ?_) he hpl
  obtain ⟨vs, H1, I1, rv, hl2, st1⟩ := hh
  refine ⟨I1.kIn, ?_⟩
  have dr := st1.seeAll (ts := [ta, tb]) hl2 (by rw [List.map_cons, List.map_cons, va, vb]; rfl)
  have st0 : St X.K c ρ τ σ H1 := St.popAll st1
  rw [List.map_cons, List.map_cons, List.map_nil, ea, eb] at dr
  cases dr with | @cons v1 vs1 _ _ d1 dr =>
  cases dr with | @cons v2 vs2 _ _ d2 dr =>
  cases dr
  cases d2
  obtain ⟨G, fs, ft, C, Lq, Mt⟩ := st0
  have st0 : St X.K c ρ τ σ H1 := ⟨G, fs, ft, C, Lq, Mt⟩
  -- the new instance and its dict
  generalize hn : s1.heap.objs.size = n
  have I2 := Inv.made (C := cLn X.K) I1
  rw [hn] at I2
  have f1 : H1 (n + 1) = none := I1.hok.fresh (by omega)
  have f0 : H1 n = none := I1.hok.fresh (by omega)
  have nn : n ≠ n + 1 := Nat.ne_of_lt (Nat.lt_succ_self n)
  have sm : Same H1 (upd (upd H1 n (.own (n + 1))) (n + 1) (.ins (cLn X.K) n [])) := fun q o e => by
    rw [upd_ne (ne_of_none e f1), upd_ne (ne_of_none e f0)]; exact e
  let QQ : VK := fun v H2 => v = .non ∧ Q (.ref (n + 1)) H2
  have hsp : spInit X.K [.ref (n + 1), v1, .int gap] (upd (upd H1 n (.own (n + 1))) (n + 1) (.ins (cLn X.K) n [])) QQ (WE W σ) := by
    refine ⟨n + 1, n, H1, runs, gap, v1, rfl, upd_same, sm, d1, fun ok l H' hl hp' hl' kp => ⟨rfl, hQ ok _ _ ?_⟩, fun nok H' sm' => hE nok H' (st0.same (sm.trans sm'))⟩
    have lN : l ≠ n + 1 := fun z => by rw [z, upd_same] at hl; cases hl
    have l1 : H1 l = none := by
      rw [upd_ne lN] at hl
      by_cases e : l = n
      · rw [e]; exact f0
      · rw [upd_ne e] at hl; exact hl
    have keepH : Same H1 H' := fun q o e => kp q o (sm q o e) (ne_of_none e f1)
    have Gn : G (n + 1) = none := by
      cases q : G (n + 1) with
      | none => rfl
      | some u => have := C.sub _ _ q; rw [f1] at this; cases this
    have Gl : G l = none := by
      cases q : G l with
      | none => rfl
      | some u => have := C.sub _ _ q; rw [l1] at this; cases this
    have ow : Own X.K G H' (.ref (n + 1)) (tLn (cLn X.K) runs gap) [n + 1, l] :=
      .obj hp' (.cons (.lst hl' (Owns.of_ds Drs.of_ints)) (.cons (.d (.int gap)) .nil))
    refine St.after C Lq Mt (G' := G) ⟨keepH, fun q o e => keepH _ _ (C.sub _ _ e), Same.refl _, fun q o e => .inl ⟨o, e⟩⟩ ow ?_ ?_
    · simp only [List.nodup_cons, List.mem_cons, List.mem_nil_iff, or_false, not_false_eq_true, List.nodup_nil, and_true]
      exact fun z => lN z.symm
    · intro a m
      simp only [List.mem_cons, List.mem_nil_iff, or_false] at m
      rcases m with m | m
      · subst m; exact ⟨Gn, f1⟩
      · subst m; exact ⟨Gl, l1⟩
  have rv2 : Vals (V.ref (n + 1) :: [v1, V.int gap]) (Value.ref (n + 1) :: us) := .cons rfl rv
  have len2 : (Value.ref (n + 1) :: us).length = 3 := by rw [← rv2.length]; rfl
  have bnd := hb0 { s1 with heap := (s1.heap.push PySem.W.emptyDict).push (PySem.W.instObj (cLn X.K) n) } (Value.ref (n + 1) :: us) I2.kIn (by simpa using len2)
  rw [List.append_nil] at bnd
  have hl3 : us.length = 2 := by simpa using len2
  refine wpAny_call (make_map (f := fI) I1.kIn M.makes M.init (beq_iff_eq.mp M.fn) ?_)
  rw [hn]
  refine codeAny_mono (F.run _ X.stack _ _ ⟨Value.ref (n + 1) :: us, []⟩ _ _ QQ (WE W σ) (hr.make (cLn X.K) us []) (I2.env0.make (cLn X.K) us []) bnd rv2 hsp) fun res s' hres => ?_
  cases res with
  | error ee => exact passAt tk σ pins _ _ ee s' I2 hres
  | ok fl =>
    cases fl with
    | ret u =>
      obtain ⟨v, H', I3, ru, ev, q3⟩ := I2.after hres
      subst ev
      exact ⟨ru, V.ref (n + 1), H', I3, rfl, q3⟩
    | next => exact hres.elim
    | brk => exact hres.elim
    | cont => exact hres.elim
/-- Line(runs, gap) where it makes a line -/
theorem e_lineT (Z : KLn X.prog X.w X.K X.mg X.base) (hr : Room 2 X.A) (ha : E X ρ a ra) (hb : E X ρ b rb) (ok : okLn runs gap) (ea : ta.toD = dIs runs) (eb : tb.toD = .int gap) (va : view ρ ra = some ta := by rfl) (vb : view ρ rb = some tb := by rfl) (hg : Gl X "Line" := by rfl)
    (he : starEach (a :: [b]) X.env = (false, eval a X.env) :: starEach [b] X.env := by rfl) (he2 : starEach [b] X.env = (false, eval b X.env) :: starEach [] X.env := by rfl) (hpl : (backTo pos (starEach [b] X.env)).any (·.1) = false := by rfl) : E X ρ (.Call (.Name "Line" p) [a, b] [] pos) (.tm (tLn (cLn X.K) runs gap)) := fun c τ σ H s Q q =>
  line_gen (W := fun _ _ _ _ => False) Z hr takes0 ha hb va vb ea eb s (fun _ v H' s' => q v H' s') (fun n => (n ok).elim) hg he he2 hpl
theorem e_line (Z : KLn X.prog X.w X.K X.mg X.base) (hr : Room 2 X.A) (ha : E X ρ a ra) (hb : E X ρ b rb) (ok : okLn runs gap) (ea : ta.toD = dIs runs) (eb : tb.toD = .int gap) (va : view ρ ra = some ta := by rfl) (vb : view ρ rb = some tb := by rfl) (hg : Gl X "Line" := by rfl)
    (he : starEach (a :: [b]) X.env = (false, eval a X.env) :: starEach [b] X.env := by rfl) (he2 : starEach [b] X.env = (false, eval b X.env) :: starEach [] X.env := by rfl) (hpl : (backTo pos (starEach [b] X.env)).any (·.1) = false := by rfl) : E X ρ (.Call (.Name "Line" p) [a, b] [] pos) (.tm (.d (dLn (cLn X.K) runs gap))) :=
  e_as (e_fz (e_lineT Z hr ha hb ok ea eb va vb hg he he2 hpl)) (by rw [tLn_toD])
/-- x = Line(runs, gap) -/
theorem s_line (n : Nat) {x0 : Str} {pos' spos : Pos} (Y : Bx X W j) (Z : KLn X.prog X.w X.K X.mg X.base) (hr : Room 2 X.A) (ha : E X ρ a ra) (hb : E X ρ b rb) (ea : ta.toD = dIs runs) (eb : tb.toD = .int gap) (hQ : okLn runs gap → Φ.nx (ρ.set n (some (tLn (cLn X.K) runs gap)))) (hE : ¬ okLn runs gap → Φ.ex (.ref (He.ga X.K "BadLine")) ρ)
    (va : view ρ ra = some ta := by rfl) (vb : view ρ rb = some tb := by rfl) (hρ : Nat.ble (n + 1) ρ.length = true := by rfl) (hi : X.N[n]? = some x0 := by rfl) (hl : Loc X.env.scope x0 := by first | exact Or.inl rfl | exact Or.inr rfl) (hf : X.fn x0 = true ∨ X.env.scope.names.lookup x0 = some .local := by first | exact .inl rfl | exact .inr rfl | assumption) (hg : Gl X "Line" := by rfl)
    (he : starEach (a :: [b]) X.env = (false, eval a X.env) :: starEach [b] X.env := by rfl) (he2 : starEach [b] X.env = (false, eval b X.env) :: starEach [] X.env := by rfl) (hpl : (backTo pos (starEach [b] X.env)).any (·.1) = false := by rfl) (hs : swapsWith (.Call (.Name "Line" p) [a, b] [] pos) (some (.Name x0 pos')) spos.line X.env = pure false := by rfl) :
    S1 X W ρ (.Assign [.Name x0 pos'] (.Call (.Name "Line" p) [a, b] [] pos) spos) Φ := fun c τ σ H tm s D P =>
  ts_of (ps_set Y.nd hi hl peS hs hf) (line_gen Z hr Y.takes ha hb va vb ea eb s (fun ok v H' s' => P.nx _ _ _ (hQ ok) (s'.store (Nat.le_of_ble_eq_true hρ) tm)) (fun n H' s' => P.ex _ _ _ _ (hE n) s') hg he he2 hpl)
end
end DL
namespace DL
open PySem PySem.Spec PyProof.Rows L2
def spStretches : Spec where
  α := Tr
  enc := fun t => [dTr t]
  pre := fun t => 0 ≤ t.1 ∧ t.1 ≤ 100 ∧ 0 ≤ t.2.1 ∧ t.2.1 ≤ 100
  post := fun t r => r = tIs (wayOf t)
def spWay (K : PySem.W.Frag) : Spec where
  α := (List Int × Int) × Tr
  enc := fun x => [dLn (cLn K) x.1.1 x.1.2, dTr x.2]
  pre := fun x => x.1.1.length ≤ 5
  post := fun x t => okTr x.1.1.length x.2 ∧ t = tIs (wayOf x.2)
  exc := fun x c => ¬ okTr x.1.1.length x.2 ∧ c = .ref (He.ga K "BadTrains")
/-- line.runs() and line.clear() -/
def spRuns (K : PySem.W.Frag) : Spec where
  α := List Int × Int
  enc := fun x => [dLn (cLn K) x.1 x.2]
  pre := fun _ => True
  post := fun x t => t = tIs x.1
def spClear (K : PySem.W.Frag) : Spec where
  α := List Int × Int
  enc := fun x => [dLn (cLn K) x.1 x.2]
  pre := fun _ => True
  post := fun x t => t = .d (.int x.2)
section
variable {P : Program} {w : World} {K : PySem.W.Frag} {mg : Str → Option Value} {base : Heap} {f : Addr} {fd : FuncData}
theorem fok_runs (F : Fun K "runs" "Line.runs" W.s_Line_runs f fd) (B : Bt mg) (L : LnF K mg) : FnOk P w K mg base (L2.CX P w) 1 f fd ["self"] (SpD K (spRuns K)) := by
  refine fok_of F W.sc_Line_runs (fun _ _ => rfl) ?_
  rintro cdv A outer s H E W0 Y ⟨runs, gap⟩ -
  show S _ W0 [some (.d (dLn (cLn K) runs gap))] _ _
  exact s_one (s_ret (e_list B.list (ln_min L (e_var 0)) rfl .d) rfl)
theorem fok_clear (F : Fun K "clear" "Line.clear" W.s_Line_clear f fd) (L : LnF K mg) : FnOk P w K mg base (L2.CX P w) 1 f fd ["self"] (SpD K (spClear K)) := by
  refine fok_of F W.sc_Line_clear (fun _ _ => rfl) ?_
  rintro cdv A outer s H E W0 Y ⟨runs, gap⟩ -
  show S _ W0 [some (.d (dLn (cLn K) runs gap))] _ _
  exact s_one (s_ret (ln_gap L (e_var 0)) rfl)
end
end DL
namespace DL
open PySem PySem.Spec PyProof.Rows L2
def cellOf (ns : List Int) (k : Int) : Int := if 0 < ns.length then ns.getD (k % ns.length).toNat 7 else 7
def drawn (ns : List Int) (k many : Int) : Int :=
  let s1 := (cellOf ns k * 48271 + (k + 1) * 7919 + ns.length) % 2147483647
  let s2 := (s1 * s1 + k * 16807 + 11) % 2147483647
  s2 * 48271 % 2147483647 / 16 % many
theorem drawn_lo {ns : List Int} {k many : Int} (h : 0 < many) : 0 ≤ drawn ns k many := Int.emod_nonneg _ (by omega)
theorem drawn_hi {ns : List Int} {k many : Int} (h : 0 < many) : drawn ns k many < many := Int.emod_lt_of_pos _ h
theorem cell_at {ns : List Int} {k : Int} (h : 0 < ns.length) : atI ns (k % ns.length) = some (cellOf ns k) := by
  have h1 : 0 ≤ k % (ns.length : Int) := Int.emod_nonneg _ (by omega)
  have h2 : k % (ns.length : Int) < ns.length := Int.emod_lt_of_pos _ (by omega)
  unfold cellOf
  rw [if_pos h]
  have h3 : (k % (ns.length : Int)).toNat < ns.length := by omega
  refine atI_get' (n := (k % (ns.length : Int)).toNat) ?_ (by omega)
  rw [List.getElem?_eq_getElem h3, List.getD_eq_getElem?_getD, List.getElem?_eq_getElem h3]
  rfl
theorem rev_range (a : Int) (n : Nat) : ((List.range n).map fun k : Nat => a + (k : Int)).reverse = (List.range n).map fun k : Nat => a + n - 1 - (k : Int) := by
  apply List.ext_getElem
  · simp
  · intro i h1 h2
    simp only [List.length_reverse, List.length_map, List.length_range] at h1
    rw [List.getElem_reverse]
    simp only [List.getElem_map, List.getElem_range, List.length_map, List.length_range]
    omega
theorem exists_min : ∀ {l : List Int}, l ≠ [] → ∃ i, i ∈ l ∧ ∀ y ∈ l, i ≤ y
  | [], h => (h rfl).elim
  | [a], _ => ⟨a, List.mem_cons_self, fun y hy => by simp at hy; omega⟩
  | a :: b :: l, _ => by
    obtain ⟨i, h1, h2⟩ := exists_min (l := b :: l) (by simp)
    by_cases h : a ≤ i
    · exact ⟨a, List.mem_cons_self, fun y hy => by
        rcases List.mem_cons.mp hy with e | m
        · omega
        · have := h2 y m; omega⟩
    · exact ⟨i, List.mem_cons_of_mem _ h1, fun y hy => by
        rcases List.mem_cons.mp hy with e | m
        · omega
        · exact h2 y m⟩
theorem exists_max : ∀ {l : List Int}, l ≠ [] → ∃ i, i ∈ l ∧ ∀ y ∈ l, y ≤ i
  | [], h => (h rfl).elim
  | [a], _ => ⟨a, List.mem_cons_self, fun y hy => by simp at hy; omega⟩
  | a :: b :: l, _ => by
    obtain ⟨i, h1, h2⟩ := exists_max (l := b :: l) (by simp)
    by_cases h : i ≤ a
    · exact ⟨a, List.mem_cons_self, fun y hy => by
        rcases List.mem_cons.mp hy with e | m
        · omega
        · have := h2 y m; omega⟩
    · exact ⟨i, List.mem_cons_of_mem _ h1, fun y hy => by
        rcases List.mem_cons.mp hy with e | m
        · omega
        · exact h2 y m⟩
theorem ok_nilD : (D.lst []).ok 1 := fun _ h => nomatch h
noncomputable def mn (l : List Int) : Int := open Classical in if h : l ≠ [] then (exists_min h).choose else 0
noncomputable def mx (l : List Int) : Int := open Classical in if h : l ≠ [] then (exists_max h).choose else 0
theorem mn_ok {l : List Int} (h : l ≠ []) : mn l ∈ l ∧ ∀ y ∈ l, mn l ≤ y := by
  unfold mn; rw [dif_pos h]; exact (exists_min h).choose_spec
theorem mx_ok {l : List Int} (h : l ≠ []) : mx l ∈ l ∧ ∀ y ∈ l, y ≤ mx l := by
  unfold mx; rw [dif_pos h]; exact (exists_max h).choose_spec
theorem range_at {n i k : Nat} (h : (List.range n)[i]? = some k) : i < n ∧ k = i := by
  obtain ⟨h1, h2⟩ := List.getElem?_eq_some_iff.mp h
  rw [List.length_range] at h1
  rw [List.getElem_range] at h2
  exact ⟨h1, h2.symm⟩
theorem take_ext {α : Type} {a b : List α} {i : Nat} {x : α} (h : a.take i = b.take i) (ha : a[i]? = some x) (hb : b[i]? = some x) : a.take (i + 1) = b.take (i + 1) := by
  rw [List.take_succ, List.take_succ, h, ha, hb]
def spDrawn : Spec where
  α := List Int × Int × Int
  enc := fun x => [.scr x.1, .int x.2.1, .int x.2.2]
  pre := fun x => 0 < x.2.2 ∧ -(2 ^ 62) < x.2.1 ∧ x.2.1 < 2 ^ 62 ∧ x.1.length ≤ 63
  post := fun x t => t = .d (.int (drawn x.1 x.2.1 x.2.2))
section
variable {P : Program} {w : World} {K : PySem.W.Frag} {mg : Str → Option Value} {base : Heap} {f : Addr} {fd : FuncData}
theorem kn_drawn (F : Fun K "_law_drawn" "_law_drawn" W.s__law_drawn f fd) (hm : mg "_law_drawn" = some (.ref f)) (hb : Binds K fd ["script", "k", "many"] []) (B : Bt mg) : Kn P w K mg base "_law_drawn" 1 spDrawn := by
  refine kn_of F hm hb W.sc__law_drawn (fun _ _ => rfl) ?_
  rintro cdv A outer s H E W0 Y ⟨ns, k, many⟩ ⟨h1, h2, h3, h4⟩
  have h1 : 0 < many := h1
  have h2 : -(2 ^ 62) < k := h2
  have h3 : k < 2 ^ 62 := h3
  have h4 : ns.length ≤ 63 := h4
  have nd := Y.nd
  show S _ W0 [some (.d (.scr ns)), some (.d (.int k)), some (.d (.int many)), none, none] _ _
  refine s_cons (s_set 3 e_int ?_)
  refine s_mid (fun ρ => ρ = [some (.d (.scr ns)), some (.d (.int k)), some (.d (.int many)), some (.d (.int (cellOf ns k))), none]) (s_if (t_cmp (c_gt (e_len B.len (e_var 0)) e_int)) (fun h => ?_) (fun h => ?_)) ?_
  · have h0 : 0 < ns.length := by simpa using h
    exact s_one (s_set 3 (e_ixS (e_var 0) (e_mod (e_var 1) (e_len B.len (e_var 0)) (by simpa using h)) (cell_at h0)) rfl)
  · have h0 : ¬ 0 < ns.length := by simpa using h
    refine s_nil ?_
    show _ = _
    unfold cellOf
    rw [if_neg h0]
    rfl
  rintro ρ' rfl
  refine s_cons (s_set 4 (e_mod (e_add (e_add (e_mul (e_var 3) e_int (.inr ⟨by decide, by decide⟩)) (e_mul (e_add (e_var 1) e_int) e_int (.inr ⟨by decide, by decide⟩))) (e_len B.len (e_var 0))) e_int (by decide)) ?_)
  have b1 : 0 ≤ (cellOf ns k * 48271 + (k + 1) * 7919 + (ns.length : Int)) % 2147483647 := Int.emod_nonneg _ (by decide)
  have b2 : (cellOf ns k * 48271 + (k + 1) * 7919 + (ns.length : Int)) % 2147483647 < 2147483647 := Int.emod_lt_of_pos _ (by decide)
  refine s_cons (s_set 4 (e_mod (e_add (e_add (e_mul (e_var 4) (e_var 4) (.inl ⟨by omega, by omega⟩)) (e_mul (e_var 1) e_int (.inr ⟨by decide, by decide⟩))) e_int) e_int (by decide)) ?_)
  refine s_one (s_ret (e_mod (e_fdiv (e_mod (e_mul (e_var 4) e_int (.inr ⟨by decide, by decide⟩)) e_int (by decide)) e_int ⟨by decide, by decide⟩) (e_var 2) h1) ?_)
  rfl
end
/-- a drawn number -/
theorem e_drawn {X : Cx} {ρ : Rho} {a b c : Expr} {ns : List Int} {k m : Int} {p pos : Pos} (F : Kn X.prog X.w X.K X.mg X.base "_law_drawn" 1 spDrawn) (hr : Room 1 X.A) (hl : ns.length ≤ 63) (ha : E X ρ a (.tm (.d (.scr ns)))) (hb : E X ρ b (.tm (.d (.int k)))) (hc : E X ρ c (.tm (.d (.int m)))) (h0 : 0 < m) (h1 : -(2 ^ 62) < k) (h2 : k < 2 ^ 62)
    (hg : Gl X "_law_drawn" := by rfl) (s1 : starEach [a, b, c] X.env = (false, eval a X.env) :: starEach [b, c] X.env := by rfl) (s2 : starEach [b, c] X.env = (false, eval b X.env) :: starEach [c] X.env := by rfl) (s3 : starEach [c] X.env = (false, eval c X.env) :: starEach [] X.env := by rfl)
    (hpl : (backTo pos (starEach [b, c] X.env)).any (·.1) = false := by rfl) : E X ρ (.Call (.Name "_law_drawn" p) [a, b, c] [] pos) (.tm (.d (.int (drawn ns k m)))) :=
  e_call F hr (ea_cons ha (ea_cons hb (ea_cons hc ea_nil s3) s2) s1) (ns, k, m) rfl ⟨h0, h1, h2, hl⟩ (fun _ h => h) (fun _ h => h) hg (by decide) s1 hpl
theorem ixN_int {n : Nat} {i : Int} (h : 0 ≤ i) (h2 : i < n) : ixN n i = some i.toNat := by
  unfold ixN
  rw [if_pos h, if_pos h2]
theorem tIs_len (xs : List Int) : (tIs xs).len = some xs.length := by
  show some ((xs.map D.int).map T.d).length = _
  rw [List.length_map, List.length_map]
theorem tIs_set (rs : List Int) (m : Nat) (v : Int) : T.lst ((((rs.map D.int).map T.d)).set m (.d (.int v))) = tIs (rs.set m v) := by
  unfold tIs
  rw [List.map_map, List.map_map, List.map_set]
  rfl
theorem tIs_range (n : Nat) (g : Nat → Int) : T.lst ((List.range n).map fun k => T.d (.int (g k))) = tIs ((List.range n).map g) := by
  unfold tIs
  rw [List.map_map, List.map_map]
  rfl
theorem pick4 {a b c d i : Int} (h : 0 ≤ i) (h2 : i < 4) : ∃ v : Int, atI [T.d (.int a), .d (.int b), .d (.int c), .d (.int d)] i = some (.d (.int v)) := by
  have : i = 0 ∨ i = 1 ∨ i = 2 ∨ i = 3 := by omega
  rcases this with rfl | rfl | rfl | rfl
  · exact ⟨a, rfl⟩
  · exact ⟨b, rfl⟩
  · exact ⟨c, rfl⟩
  · exact ⟨d, rfl⟩
theorem pick3 {a b c i : Int} (h : 0 ≤ i) (h2 : i < 3) : ∃ v : Int, atI [T.d (.int a), .d (.int b), .d (.int c)] i = some (.d (.int v)) := by
  have : i = 0 ∨ i = 1 ∨ i = 2 := by omega
  rcases this with rfl | rfl | rfl
  · exact ⟨a, rfl⟩
  · exact ⟨b, rfl⟩
  · exact ⟨c, rfl⟩
/-- no field of that name -/
theorem ln_no {C : Addr} {m : Str} {runs : List Int} {gap : Int} (h1 : ¬ m = "minutes") (h2 : ¬ m = "gap") : ∀ d, (m, d) ∉ [(("minutes" : Str), dIs runs), (("gap" : Str), D.int gap)] := by
  intro d h
  simp only [List.mem_cons, Prod.mk.injEq, List.mem_nil_iff, or_false] at h
  rcases h with h | h
  · exact h1 h.1
  · exact h2 h.1
theorem e_runs {X : Cx} {ρ : Rho} {a : Expr} {runs : List Int} {gap : Int} {pos apos : Pos} {pl : Sem Bool} (F : KnM X.prog X.w X.K X.mg X.base (cLn X.K) "runs" 1 (spRuns X.K)) (hr : Room 1 X.A) (ha : E X ρ a (.tm (.d (dLn (cLn X.K) runs gap))))
    (ht : eval (.Call (.Attribute a "runs" apos) [] [] pos) X.env = (do
      let ov ← eval a X.env
      standAt apos.atName
      let (f, first) ← holding [ov] (getMethod ov "runs" pl)
      callWith pos f first (backTo pos (starEach [] X.env)) (backToKw pos (keywordEach [] X.env))) := by rfl) : E X ρ (.Call (.Attribute a "runs" apos) [] [] pos) (.tm (tIs runs)) :=
  e_meth0 F hr ha (runs, gap) rfl trivial (fun _ h => h) (fun _ h => h) (ln_no (C := cLn X.K) (by decide +kernel) (by decide +kernel)) ht
theorem e_clear {X : Cx} {ρ : Rho} {a : Expr} {runs : List Int} {gap : Int} {pos apos : Pos} {pl : Sem Bool} (F : KnM X.prog X.w X.K X.mg X.base (cLn X.K) "clear" 1 (spClear X.K)) (hr : Room 1 X.A) (ha : E X ρ a (.tm (.d (dLn (cLn X.K) runs gap))))
    (ht : eval (.Call (.Attribute a "clear" apos) [] [] pos) X.env = (do
      let ov ← eval a X.env
      standAt apos.atName
      let (f, first) ← holding [ov] (getMethod ov "clear" pl)
      callWith pos f first (backTo pos (starEach [] X.env)) (backToKw pos (keywordEach [] X.env))) := by rfl) : E X ρ (.Call (.Attribute a "clear" apos) [] [] pos) (.tm (.d (.int gap))) :=
  e_meth0 F hr ha (runs, gap) rfl trivial (fun _ h => h) (fun _ h => h) (ln_no (C := cLn X.K) (by decide +kernel) (by decide +kernel)) ht
def dTrs (ts : List Tr) : D := .lst (ts.map dTr)
theorem len_dTrs (ts : List Tr) : (T.d (dTrs ts)).len = some ts.length := by
  show some (ts.map dTr).length = _
  rw [List.length_map]
theorem len_dIs (ts : List Int) : (T.d (dIs ts)).len = some ts.length := by
  show some (ts.map D.int).length = _
  rw [List.length_map]
end DL
namespace DL
open PySem PySem.Spec PyProof.Rows L2
abbrev nS (i : Int) : Str := (toString i : String)
def figs : List Nat := [48, 49, 50, 51, 52, 53, 54, 55, 56, 57]
def chkS (z : Str) : Bool := !decide (z = "") && (decide (z.length ≤ 2) && ((match z.cps.toList with
  | c :: _ => !(decide ((⟨#[c]⟩ : Str) = "0") && !decide (z = "0"))
  | [] => false) && z.cps.toList.all fun c => decide (c ∈ figs)))
theorem chk_all : ∀ k : Fin 21, chkS (nS (k.val : Int)) = true := by decide +kernel
theorem chk_of {i : Int} (h0 : 0 ≤ i) (h1 : i ≤ 20) : chkS (nS i) = true := by
  have := chk_all ⟨i.toNat, by omega⟩
  rwa [show ((⟨i.toNat, by omega⟩ : Fin 21).val : Int) = i from by show ((i.toNat : Nat) : Int) = i; omega] at this
theorem nS_facts {i : Int} (h0 : 0 ≤ i) (h1 : i ≤ 20) : nS i ≠ "" ∧ (nS i).length ≤ 2 ∧ (∃ c l, (nS i).cps.toList = c :: l ∧ (decide ((⟨#[c]⟩ : Str) = "0") && !decide (nS i = "0")) = false) ∧ ∀ c ∈ (nS i).cps.toList, c ∈ figs := by
  have h := chk_of h0 h1
  unfold chkS at h
  obtain ⟨a1, h⟩ := He.ba h
  obtain ⟨a2, h⟩ := He.ba h
  obtain ⟨a3, a4⟩ := He.ba h
  refine ⟨by simpa using a1, of_decide_eq_true a2, ?_, fun c hc => of_decide_eq_true (List.all_eq_true.mp a4 c hc)⟩
  cases e : (nS i).cps.toList with
  | nil => rw [e] at a3; cases a3
  | cons c l =>
    rw [e] at a3
    have a3 : (!(decide ((⟨#[c]⟩ : Str) = "0") && !decide (nS i = "0"))) = true := a3
    exact ⟨c, l, rfl, by rwa [Bool.not_eq_true'] at a3⟩
theorem nS_free {i : Int} (h0 : 0 ≤ i) (h1 : i ≤ 20) : 45 ∉ (nS i).cps.toList ∧ 32 ∉ (nS i).cps.toList :=
  ⟨fun m => absurd ((nS_facts h0 h1).2.2.2 _ m) (by decide), fun m => absurd ((nS_facts h0 h1).2.2.2 _ m) (by decide)⟩
theorem dash_eq : ("-" : Str) = ⟨#[45]⟩ := by decide +kernel
theorem blank_eq : (" " : Str) = ⟨#[32]⟩ := by decide +kernel
theorem figs_eq : ("0123456789" : Str).cps.toList = figs := by decide +kernel
theorem nS_reads {i : Int} (h0 : 0 ≤ i) (h1 : i ≤ 20) : PySem.intText? (nS i) = some i := PySem.W.KIN.num_reads h0 (by omega)
def StrG (mg : Str → Option Value) (nm z : Str) : Prop := ∃ t, mg nm = some (.str z t)
theorem e_gs {X : Cx} {ρ : Rho} {nm z : Str} {pos : Pos} (h : StrG X.mg nm z) (hg : Gl X nm := by rfl) (hd : (nm == ("__debug__" : Str)) = false := by decide) : E X ρ (.Name nm pos) (.tm (.d (.str z))) := let ⟨_, h⟩ := h; e_gstr h hg hd
def spNumber : Spec where
  α := Int
  enc := fun i => [.str (nS i)]
  pre := fun i => 0 ≤ i ∧ i ≤ 20
  post := fun i t => t = .d (.int i)
def runsS (runs : List Int) : Str := Str.join ⟨#[45]⟩ (runs.map nS)
def textOf (runs : List Int) (gap : Int) : Str := (runsS runs ++ (" clear " : Str)) ++ nS gap
def spWritten (K : PySem.W.Frag) : Spec where
  α := List Int × Int
  enc := fun x => [dLn (cLn K) x.1 x.2]
  pre := fun x => okLn x.1 x.2
  post := fun x t => t = .d (.str (textOf x.1 x.2))
def spRead (K : PySem.W.Frag) : Spec where
  α := List Int × Int
  enc := fun x => [.str (textOf x.1 x.2)]
  pre := fun x => okLn x.1 x.2
  post := fun x t => t = tLn (cLn K) x.1 x.2
theorem clear_eq : (" clear " : Str).cps.toList = 32 :: (("clear" : Str).cps.toList ++ [32]) := by decide +kernel
theorem clear_free : 32 ∉ ("clear" : Str).cps.toList := by decide +kernel
theorem join_free {c d : Nat} (hd : d ≠ c) : ∀ {l : List Str}, (∀ p ∈ l, d ∉ p.cps.toList) → d ∉ (Str.join ⟨#[c]⟩ l).cps.toList
  | [], _ => by show d ∉ (Str.empty).cps.toList; exact fun m => nomatch m
  | [p], h => by rw [join_cps1]; exact h p List.mem_cons_self
  | p :: q :: l, h => by
    rw [join_cps2]
    intro m
    rcases List.mem_append.mp m with m | m
    · exact h p List.mem_cons_self m
    · rcases List.mem_cons.mp m with m | m
      · exact hd m
      · exact join_free hd (fun z hz => h z (List.mem_cons_of_mem _ hz)) m
theorem okLn_run {runs : List Int} {gap : Int} (ok : okLn runs gap) {r : Int} (h : r ∈ runs) : 0 ≤ r ∧ r ≤ 20 := by
  have := ok.2.2.2.2 r h
  omega
theorem text_words {runs : List Int} {gap : Int} (ok : okLn runs gap) : Txt.split (textOf runs gap) ⟨#[32]⟩ = [runsS runs, "clear", nS gap] := by
  have e : textOf runs gap = Str.join ⟨#[32]⟩ [runsS runs, "clear", nS gap] := by
    apply str_eq
    rw [join_cps2, join_cps2, join_cps1]
    unfold textOf
    rw [Str.cps_append, Str.cps_append, Array.toList_append, Array.toList_append, clear_eq]
    simp
  rw [e]
  refine split_join (by simp) fun p hp => ?_
  simp only [List.mem_cons, List.mem_nil_iff, or_false] at hp
  rcases hp with rfl | rfl | rfl
  · refine join_free (by decide) fun q hq => ?_
    obtain ⟨r, hr, rfl⟩ := List.mem_map.mp hq
    exact (nS_free (okLn_run ok hr).1 (okLn_run ok hr).2).2
  · exact clear_free
  · exact (nS_free ok.2.2.1 (by have := ok.2.2.2.1; omega)).2
theorem runs_words {runs : List Int} {gap : Int} (ok : okLn runs gap) : Txt.split (runsS runs) ⟨#[45]⟩ = runs.map nS := by
  refine split_join ?_ fun q hq => ?_
  · intro z
    have h := congrArg List.length z
    rw [List.length_map] at h
    exact absurd h (by have := ok.1; show ¬ runs.length = 0; omega)
  · obtain ⟨r, hr, rfl⟩ := List.mem_map.mp hq
    exact (nS_free (okLn_run ok hr).1 (okLn_run ok hr).2).1
theorem runs_sum {runs : List Int} {gap : Int} (ok : okLn runs gap) : ((runs.map nS).map (·.length)).sum ≤ 10 := by
  have h := StrLaws.sumLen_le (B := 2) (runs.map nS) fun y hy => by
    obtain ⟨r, hr, rfl⟩ := List.mem_map.mp hy
    exact (nS_facts (okLn_run ok hr).1 (okLn_run ok hr).2).2.1
  rw [List.length_map] at h
  have := ok.2.1
  omega
theorem runsS_len {runs : List Int} {gap : Int} (ok : okLn runs gap) : (runsS runs).length ≤ 20 := by
  have h := StrLaws.join_length_le ⟨#[45]⟩ (runs.map nS)
  have h2 := runs_sum ok
  have h3 := ok.2.1
  rw [List.length_map] at h
  have h4 : (⟨#[45]⟩ : Str).length = 1 := rfl
  rw [h4] at h
  show (Str.join ⟨#[45]⟩ (runs.map nS)).length ≤ 20
  omega
theorem clear_len : (" clear " : Str).length = 7 := by decide +kernel
theorem text_len {runs : List Int} {gap : Int} (ok : okLn runs gap) : (textOf runs gap).length ≤ 30 := by
  have h1 := runsS_len ok
  have h2 := (nS_facts ok.2.2.1 (by have := ok.2.2.2.1; omega)).2.1
  unfold textOf
  rw [Str.length_append, Str.length_append, clear_len]
  omega
end DL
namespace DL
open PySem PySem.Spec PyProof.Rows L2
def numV (z : Str) : Option Int := if chkS z = true then PySem.intText? z else none
def num1 (c : Nat) : Bool := match PySem.intText? ⟨#[c]⟩ with
  | some n => decide (0 ≤ n ∧ n ≤ 99)
  | none => false
def num2 (c d : Nat) : Bool := match PySem.intText? ⟨#[c, d]⟩ with
  | some n => decide (0 ≤ n ∧ n ≤ 99)
  | none => false
theorem num_fin1 : (figs.all fun c => num1 c) = true := by decide +kernel
theorem num_fin2 : (figs.all fun c => figs.all fun d => num2 c d) = true := by decide +kernel
theorem chk_parts {z : Str} (h : chkS z = true) : z ≠ "" ∧ z.length ≤ 2 ∧ (∃ c l, z.cps.toList = c :: l ∧ (decide ((⟨#[c]⟩ : Str) = "0") && !decide (z = "0")) = false) ∧ ∀ c ∈ z.cps.toList, c ∈ figs := by
  unfold chkS at h
  obtain ⟨a1, h⟩ := He.ba h
  obtain ⟨a2, h⟩ := He.ba h
  obtain ⟨a3, a4⟩ := He.ba h
  refine ⟨by simpa using a1, of_decide_eq_true a2, ?_, fun c hc => of_decide_eq_true (List.all_eq_true.mp a4 c hc)⟩
  cases e : z.cps.toList with
  | nil => rw [e] at a3; cases a3
  | cons c l =>
    rw [e] at a3
    have a3 : (!(decide ((⟨#[c]⟩ : Str) = "0") && !decide (z = "0"))) = true := a3
    exact ⟨c, l, rfl, by rwa [Bool.not_eq_true'] at a3⟩
theorem chk_mk {z : Str} {c : Nat} {l : List Nat} (h1 : z ≠ "") (h2 : z.length ≤ 2) (h3 : z.cps.toList = c :: l) (h4 : (decide ((⟨#[c]⟩ : Str) = "0") && !decide (z = "0")) = false) (h5 : ∀ c ∈ z.cps.toList, c ∈ figs) : chkS z = true := by
  unfold chkS
  rw [decide_eq_false h1, decide_eq_true h2]
  have h6 : (z.cps.toList.all fun c => decide (c ∈ figs)) = true := List.all_eq_true.mpr fun c hc => decide_eq_true (h5 c hc)
  rw [h6]
  simp only [h3]
  rw [h4]
  rfl
theorem len_cps (z : Str) : z.length = z.cps.toList.length := by
  show z.cps.size = _
  rw [Array.length_toList]
theorem chk_int {z : Str} (h : chkS z = true) : ∃ n, PySem.intText? z = some n ∧ 0 ≤ n ∧ n ≤ 99 := by
  obtain ⟨h1, h2, ⟨c, l, h3, h4⟩, h5⟩ := chk_parts h
  rw [len_cps, h3] at h2
  rw [h3] at h5
  have hc := h5 c List.mem_cons_self
  cases l with
  | nil =>
    have ez : z = ⟨#[c]⟩ := str_eq h3
    have := List.all_eq_true.mp num_fin1 c hc
    unfold num1 at this
    rw [ez]
    split at this
    · rename_i n e
      exact ⟨n, e, of_decide_eq_true this⟩
    · cases this
  | cons d l =>
    have hl : l = [] := List.length_eq_zero_iff.mp (by simp only [List.length_cons] at h2; omega)
    subst hl
    have hd := h5 d (List.mem_cons_of_mem _ List.mem_cons_self)
    have ez : z = ⟨#[c, d]⟩ := str_eq h3
    have := List.all_eq_true.mp (List.all_eq_true.mp num_fin2 c hc) d hd
    unfold num2 at this
    rw [ez]
    split at this
    · rename_i n e
      exact ⟨n, e, of_decide_eq_true this⟩
    · cases this
theorem numV_some {z : Str} {n : Int} (h : numV z = some n) : chkS z = true ∧ PySem.intText? z = some n := by
  unfold numV at h
  split at h
  · rename_i c
    exact ⟨c, h⟩
  · cases h
theorem numV_nS {i : Int} (h0 : 0 ≤ i) (h1 : i ≤ 20) : numV (nS i) = some i := by
  unfold numV
  rw [if_pos (chk_of h0 h1)]
  exact nS_reads h0 h1
theorem numV_no {z : Str} (h : ¬ chkS z = true) : numV z = none := by
  unfold numV
  rw [if_neg h]
def spNumX (K : PySem.W.Frag) : Spec where
  α := Str
  enc := fun z => [.str z]
  pre := fun z => z.length ≤ 100000
  post := fun z t => ∃ n, numV z = some n ∧ t = .d (.int n)
  exc := fun z c => numV z = none ∧ c = .ref (He.ga K "BadText")
section
variable {P : Program} {w : World} {K : PySem.W.Frag} {mg : Str → Option Value} {base : Heap} {f : Addr} {fd : FuncData}
theorem kn_numX (F : Fun K "number_of" "number_of" W.s_number_of f fd) (hm : mg "number_of" = some (.ref f)) (hb : Binds K fd ["word"] []) (B : Bt mg) (x : ExF K mg "BadText") (fg : StrG mg "FIGURES" "0123456789") : Kn P w K mg base "number_of" 1 (spNumX K) := by
  refine kn_of F hm hb W.sc_number_of (fun _ _ => rfl) ?_
  rintro cdv A outer s H E W0 Y (z : Str) hlen
  have hlen : z.length ≤ 100000 := hlen
  have nd := Y.nd
  have hl : z.length ≤ sizeLine := by rw [sizeLine_eq]; omega
  have no : ∀ {Q : Prop}, ¬ chkS z = true → (spNumX K).exc z (.ref (He.ga K "BadText")) := fun h => ⟨numV_no h, rfl⟩
  show S _ W0 [some (.d (.str z)), none] _ _
  cases hz : z.cps.toList with
  | nil =>
    have ez : z = "" := str_eq (by rw [hz]; decide)
    refine s_cons (s_if (t_w (w_or (l := false) (t_cmp (c_eqS (e_var 0) e_str)) fun h => ?_)) (fun h => s_one (s_rz Y x ⟨numV_no fun q => (chk_parts q).1 ez, rfl⟩)) (fun h => ?_))
    · rw [decide_eq_true ez] at h
      cases h
    · rw [decide_eq_true ez] at h
      cases h
  | cons c l =>
  have hne : z ≠ "" := fun q => by
    rw [q] at hz
    have : (("" : Str).cps.toList) = [] := by decide
    rw [this] at hz
    cases hz
  refine s_mid (fun ρ => (z.length ≤ 2 ∧ (decide ((⟨#[c]⟩ : Str) = "0") && !decide (z = "0")) = false) ∧ ρ = [some (.d (.str z)), none]) (s_if (t_w (w_or (t_cmp (c_eqS (e_var 0) e_str)) fun _ => w_or (t_cmp (c_gt (e_lenS B.len (e_var 0) hl) e_int)) fun _ => w_or1 (t_w (w_and (t_cmp (c_eqS (e_ix (e_var 0) e_int (.X hl (atI_get' (n := 0) (x := c) (by rw [hz]; rfl) rfl))) e_str)) fun _ => w_and1 (t_cmp (c_neS (e_var 0) e_str)))))) (fun h => s_one (s_rz Y x ⟨numV_no fun q => ?_, rfl⟩)) (fun h => s_nil ⟨?_, rfl⟩)) ?_
  · obtain ⟨p1, p2, ⟨c', l', p3, p4⟩, _⟩ := chk_parts q
    rw [hz] at p3
    cases p3
    rw [p4, decide_eq_false p1, Bool.or_false, Bool.false_or] at h
    have := of_decide_eq_true h
    omega
  · rw [decide_eq_false hne, Bool.false_or] at h
    obtain ⟨a1, a2⟩ := Bool.or_eq_false_iff.mp h
    have a1 := of_decide_eq_false a1
    exact ⟨by omega, a2⟩
  rintro ρ ⟨⟨h2, h4⟩, rfl⟩
  refine s_mid (fun ρ => (∀ c ∈ z.cps.toList, c ∈ figs) ∧ ∃ y, ρ = [some (.d (.str z)), y]) (s_for (xs := z.cps.toList) (enc := encC) 1 Y (i_str (e_var 0)) (fun i ρ => (∀ c ∈ z.cps.toList.take i, c ∈ figs) ∧ ∃ y, ρ = [some (.d (.str z)), y]) ⟨by simp, _, rfl⟩ (fun i ρ h => by obtain ⟨_, _, rfl⟩ := h; show 1 < 2; decide) (fun i d ρ hc h => ?_) fun ρ h => by rw [List.take_length] at h; exact h) ?_
  · obtain ⟨hall, y, rfl⟩ := h
    refine s_one (s_if (t_cmp (c_notInS (e_var 1) (e_gs fg))) (fun h => s_one (s_rz Y x ⟨numV_no fun q => ?_, rfl⟩)) (fun h => s_nil ⟨fun e he => ?_, _, rfl⟩))
    · have m := (chk_parts q).2.2.2 d (List.mem_of_getElem? hc)
      rw [figs_eq, decide_eq_true m] at h
      cases h
    · rw [List.take_succ, hc] at he
      rcases List.mem_append.mp he with m | m
      · exact hall e m
      · have : e = d := by simpa using m
        subst this
        rw [figs_eq] at h
        simpa using h
  rintro ρ ⟨hall, y, rfl⟩
  have hchk : chkS z = true := chk_mk hne h2 hz h4 hall
  obtain ⟨n, hn, _, _⟩ := chk_int hchk
  exact s_one (s_ret (e_intS (n := n) B.int (e_var 0) hn (by omega)) ⟨n, by unfold numV; rw [if_pos hchk]; exact hn, rfl⟩)
end
section
variable {X : Cx} {W : WX} {ρ : Rho} {Φ : Ph} {a b e : Expr} {es : List Expr} {runs : List Int} {gap : Int} {pos p p2 pos2 spos : Pos} {j k : Nat} {ra rb : R} {ta tb : T} {nm : Str} {S : Spec} {ts : List T}
/-- Line(a, b) alone -/
theorem s_lineE (Y : Bx X W j) (Z : KLn X.prog X.w X.K X.mg X.base) (hr : Room 2 X.A) (ha : E X ρ a ra) (hb : E X ρ b rb) (ea : ta.toD = dIs runs) (eb : tb.toD = .int gap) (hQ : okLn runs gap → Φ.nx ρ) (hE : ¬ okLn runs gap → Φ.ex (.ref (He.ga X.K "BadLine")) ρ)
    (va : view ρ ra = some ta := by rfl) (vb : view ρ rb = some tb := by rfl) (hg : Gl X "Line" := by rfl)
    (he : starEach (a :: [b]) X.env = (false, eval a X.env) :: starEach [b] X.env := by rfl) (he2 : starEach [b] X.env = (false, eval b X.env) :: starEach [] X.env := by rfl) (hpl : (backTo pos (starEach [b] X.env)).any (·.1) = false := by rfl) (hs : swapsWith (.Call (.Name "Line" p) [a, b] [] pos) none spos.line X.env = pure false := by rfl) :
    S1 X W ρ (.Expr (.Call (.Name "Line" p) [a, b] [] pos) spos) Φ := fun c τ σ H tm s D P =>
  ts_of (ps_expr peS hs) (line_gen Z hr Y.takes ha hb va vb ea eb s (fun ok v H' s' => P.nx _ _ _ (hQ ok) s'.pop) (fun n H' s' => P.ex _ _ _ _ (hE n) s') hg he he2 hpl)
/-- return Line(a, f(..)), f raises -/
theorem s_retLineX (Y : Bx X W j) (Z : KLn X.prog X.w X.K X.mg X.base) (F : Kn X.prog X.w X.K X.mg X.base nm k S) (hr : Room k X.A) (ha : E X ρ a ra) (he1 : EA X ρ (e :: es) ts) (x : S.α) (hts : ts = (S.enc x).map T.d) (hpre : S.pre x) (hno : ∀ t, ¬ S.post x t) (hx : ∀ cls, S.exc x cls → Φ.ex cls ρ)
    (hg : Gl X "Line" := by rfl) (hg2 : Gl X nm := by rfl) (hdb : (nm == ("__debug__" : Str)) = false := by decide) (he3 : starEach (e :: es) X.env = (false, eval e X.env) :: starEach es X.env := by rfl) (hpl2 : (backTo pos2 (starEach es X.env)).any (·.1) = false := by rfl)
    (he : starEach (a :: [.Call (.Name nm p2) (e :: es) [] pos2]) X.env = (false, eval a X.env) :: starEach [.Call (.Name nm p2) (e :: es) [] pos2] X.env := by rfl) (he2 : starEach [.Call (.Name nm p2) (e :: es) [] pos2] X.env = (false, eval (.Call (.Name nm p2) (e :: es) [] pos2) X.env) :: starEach [] X.env := by rfl) (hpl : (backTo pos (starEach [.Call (.Name nm p2) (e :: es) [] pos2] X.env)).any (·.1) = false := by rfl) :
    S1 X W ρ (.Return (some (.Call (.Name "Line" p) [a, .Call (.Name nm p2) (e :: es) [] pos2] [] pos)) spos) Φ := fun c τ σ H tm s D P => by
  refine ts_of (ps_ret peS) (?_ : teS X (.Call (.Name "Line" p) [a, .Call (.Name nm p2) (e :: es) [] pos2] [] pos) σ H _)
  obtain ⟨fI, fd, M, F0, hb0⟩ := Z.mkr
  intro pins s0 I
  refine wpAny_Call_Name_kw (ld_glob I hg Z.ln.g ?_)
  have args := (pa_cons (X := X) (peS (e := a)) (pa_cons (peS (e := .Call (.Name nm p2) (e :: es) [] pos2)) pa_nil he2) he).run pos pins s0 σ H (fun _ _ => False) I
    (ha c τ σ H s _ fun v H1 s1 => call_gen F hr Y.takes he1 x hts hpre s1 (fun t ht => (hno t ht).elim) (fun cls hc H' s' => P.ex _ _ _ _ (hx cls hc) s'.pop) hg2 hdb he3 hpl2)
  exact PySem.W.callWith_K (h₀ := X.base) I.ok.mod.kin M.kp (thn args fun us s1 hh => by
    obtain ⟨_, _, _, _, no⟩ := hh
    exact no.elim) he hpl
end
def spRead14 (K : PySem.W.Frag) : Spec where
  α := Unit
  enc := fun _ => [.str "3-4 clear "]
  pre := fun _ => True
  post := fun _ _ => False
  exc := fun _ c => c = .ref (He.ga K "BadText")
theorem split14 : Txt.split ("3-4 clear " : Str) ⟨#[32]⟩ = (["3-4", "clear", ""] : List Str) := by
  have e : ("3-4 clear " : Str) = Str.join ⟨#[32]⟩ (["3-4", "clear", ""] : List Str) := by decide +kernel
  rw [e]
  refine split_join (by simp) fun p hp => ?_
  simp only [List.mem_cons, List.mem_nil_iff, or_false] at hp
  rcases hp with rfl | rfl | rfl <;> decide +kernel
theorem split14b : Txt.split ("3-4" : Str) ⟨#[45]⟩ = [nS 3, nS 4] := by
  have e : ("3-4" : Str) = Str.join ⟨#[45]⟩ [nS 3, nS 4] := by decide +kernel
  rw [e]
  refine split_join (by simp) fun p hp => ?_
  simp only [List.mem_cons, List.mem_nil_iff, or_false] at hp
  rcases hp with rfl | rfl <;> decide +kernel
section
variable {P : Program} {w : World} {K : PySem.W.Frag} {mg : Str → Option Value} {base : Heap} {f : Addr} {fd : FuncData}
theorem kn_read14 (F : Fun K "read" "read" W.s_read f fd) (hm : mg "read" = some (.ref f)) (hb : Binds K fd ["text"] []) (B : Bt mg) (Z : KLn P w K mg base) (gB : Glo K mg "BadLine") (eB : PySem.W.exmOne K (.ref (He.ga K "BadText")) (.ref (He.ga K "BadLine")) = some false) (F1 : Kn P w K mg base "number_of" 1 (spNumX K)) : Kn P w K mg base "read" 3 (spRead14 K) := by
  refine kn_of F hm hb W.sc_read (fun _ _ => rfl) ?_
  rintro cdv A outer s H E W0 Y - -
  have nd := Y.nd
  have R1 : Room 1 _ := Y.room.mono (by decide)
  show S _ W0 [some (.d (.str "3-4 clear ")), none, none, none] _ _
  refine s_cons (s_set 1 (e_split (e_var 0) (y := ⟨#[32]⟩) (by rw [← blank_eq]; exact e_str) rfl (by rw [sizeLine_eq]; decide +kernel)) ?_)
  rw [split14]
  refine s_mid (fun ρ => ρ = [some (.d (.str "3-4 clear ")), some (.lst [.d (.str "3-4"), .d (.str "clear"), .d (.str "")]), none, none]) (s_if (t_w (w_or (t_cmp (c_neI (e_len B.len (e_varP 1)) e_int)) fun _ => w_or1 (t_cmp (c_neS (e_ix (e_varP 1) e_int (.PL rfl rfl)) e_str)))) (fun h => ?_) (fun h => s_nil rfl)) ?_
  · exfalso
    simp at h
  rintro ρ rfl
  have hin : ∀ r ∈ [(3 : Int), 4], 0 ≤ r ∧ r ≤ 20 := fun r hr => by
    simp only [List.mem_cons, List.mem_nil_iff, or_false] at hr
    omega
  refine s_mid (fun ρ => ρ = [some (.d (.str "3-4 clear ")), some (.lst [.d (.str "3-4"), .d (.str "clear"), .d (.str "")]), some (tIs [3, 4]), none])
    (s_lc 2 3 Y (xs := [(3 : Int), 4]) (enc := fun r => D.str (nS r)) (f := fun r => T.d (.int r)) (i_list (e_as (e_fzL (ds := ([nS 3, nS 4]).map D.str) (e_as (e_split (e_ix (e_varP 1) e_int (.PL rfl rfl)) (y := ⟨#[45]⟩) (by rw [← dash_eq]; exact e_str) rfl (by rw [sizeLine_eq]; decide +kernel)) (by rw [split14b]))) rfl)) rfl
      (fun s H C cl fp r hr => e_call (t := .d (.int r)) F1 R1 (ea_cons (e_var 3) ea_nil) (nS r) rfl (by have := (nS_facts (hin r hr).1 (hin r hr).2).2.1; show (nS r).length ≤ 100000; omega) (fun t h => by
        obtain ⟨n, hn, rfl⟩ := h
        rw [numV_nS (hin r hr).1 (hin r hr).2] at hn
        cases hn
        rfl) (fun c h => by
        have h := h.1
        rw [numV_nS (hin r hr).1 (hin r hr).2] at h
        cases h)) rfl (by decide)) ?_
  rintro ρ rfl
  refine s_one (s_tryOnly Y ⟨rfl, by decide, .inl gB⟩ (Xb := fun cls _ => cls = .ref (He.ga K "BadText")) (fun W' pn xe Y' => ?_) (fun cls _ h => by subst h; exact ⟨eB, rfl⟩))
  exact s_one (s_retLineX Y' Z F1 (Y'.room.mono (by decide)) (e_varP 2) (ea_cons (e_ix (e_varP 1) e_int (.PL (x := .str "") rfl rfl)) ea_nil) (x := (Str.ofString "" : Str)) rfl (show (Str.ofString "").length ≤ 100000 by decide) (fun t h => by
    obtain ⟨n, hn, _⟩ := h
    exact absurd (numV_some hn).1 (by decide +kernel)) (fun cls h => h.2))
end
end DL
namespace DL
open PySem PySem.Spec PyProof.Rows L2
theorem exmNo {K : PySem.W.Frag} {a c : Value} (hb : PySem.W.subIn K c (.type "BaseException") = some true) (hk : PySem.W.kitOne K a c = some false) : PySem.W.exmOne K a c = some false := by
  unfold PySem.W.kitOne at hk
  unfold PySem.W.exmOne
  rw [hb]
  split at hk
  · cases hk
  · exact hk
section
variable {X : Cx} {W : WX} {ρ : Rho} {Φ : Ph} {k : Nat}
theorem s_rzN {nm m : Str} {j : Nat} {p p2 pos pos2 : Pos} (hc : X.calm = true) (tk : L2N.Takes X W) (x : ExF X.K X.mg nm) (h : Φ.ex (.ref (He.ga X.K nm)) ρ) (hg : Gl X nm := by rfl) (hdb : (nm == ("__debug__" : Str)) = false := by decide) :
    S1 X W ρ (.Raise (some (.Call (.Name nm p) [.Constant (.str m) j p2] [] pos)) none pos2) Φ := s_raiseN hc tk PySem.F.excBase_ValueError x.x x.g x.k (raises_own x.b x.t) h hg hdb
end
def spInitN (K : PySem.W.Frag) : Sp := fun vs H Q E => ∃ (p : Addr) (G : Hp) (runs : List Int) (gap : Int) (v : V), vs = [.ref p, v, .int gap] ∧ Same G H ∧ Dr K G v (dIs runs) ∧ ¬ okLn runs gap ∧ ∀ H', Same H H' → E (.ref (He.ga K "BadLine")) none H'
section
variable {P : Program} {w : World} {K : PySem.W.Frag} {mg : Str → Option Value} {base : Heap} {f : Addr} {fd : FuncData}
theorem ok_initN (F : Fun K "__init__" "Line.__init__" W.s_Line_init f fd) (B : Bt mg) (x : ExF K mg "BadLine") (i1 : IntG mg "MOST_STRETCHES" 5) (i2 : IntG mg "MOST_RUN" 20) (i3 : IntG mg "MOST_CLEAR" 5) :
    FnOk P w K mg base (L2N.CX P w) 1 f fd ["self", "runs", "clear"] (spInitN K) := by
  obtain ⟨oc, od, kV, doc, pm, an, cdv, ct, osl, rfl, lk, hcd⟩ := F.ex
  refine fn_of lk hcd W.sc_Line_init (fun vs H Q E h => ?_) fun A outer s H vs Q E hr h => ?_
  · obtain ⟨p, G, runs, gap, v, rfl, _⟩ := h
    rfl
  obtain ⟨p, G, runs, gap, v, rfl, sb, dv, no, kE⟩ := h
  refine ⟨tbS _ (defBody W.s_Line_init), pbS, ?_⟩
  have hcalm : (cxOf (L2N.CX P w) P w K mg base W.n_Line_init "Line.__init__" (defScope W.s_Line_init) f cdv A outer s H E).calm = true := rfl
  have tk : L2N.Takes (cxOf (L2N.CX P w) P w K mg base W.n_Line_init "Line.__init__" (defScope W.s_Line_init) f cdv A outer s H E) (fun cls d _ H => E cls d H) := L2N.takes_of rfl rfl rfl rfl
  have ps : PassesOwn (model P w) (cxOf (L2N.CX P w) P w K mg base W.n_Line_init "Line.__init__" (defScope W.s_Line_init) f cdv A outer s H E).A (cxOf (L2N.CX P w) P w K mg base W.n_Line_init "Line.__init__" (defScope W.s_Line_init) f cdv A outer s H E).env (cxOf (L2N.CX P w) P w K mg base W.n_Line_init "Line.__init__" (defScope W.s_Line_init) f cdv A outer s H E).xe := passes_of rfl
  have nd : W.n_Line_init.Nodup := W.sc_Line_init.nd
  have s0 : St K ⟨H, G, []⟩ [some (.d (.adr p)), some (.d (dIs runs)), some (.d (.int gap)), none] [] [some (.ref p), some v, some (.int gap), none] H :=
    ⟨G, [], [], ⟨sb, Same.refl _, fun a o q => .inl ⟨o, q⟩, fun a o q _ => q, fun a o q => ⟨o, q⟩, List.nodup_nil, fun a m => nomatch m⟩, .som (.d (.adr p)) (.som (.d dv) (.som (.d (.int gap)) (.non .nil))), .nil⟩
  have hS : S (cxOf (L2N.CX P w) P w K mg base W.n_Line_init "Line.__init__" (defScope W.s_Line_init) f cdv A outer s H E) (fun cls d _ H => E cls d H) [some (.d (.adr p)), some (.d (dIs runs)), some (.d (.int gap)), none] (defBody W.s_Line_init)
      { nx := fun _ => False, ex := fun cls _ => cls = .ref (He.ga K "BadLine") } := by
    refine s_mid (fun ρ => ρ = [some (.d (.adr p)), some (.d (dIs runs)), some (.d (.int gap)), none] ∧ 1 ≤ runs.length ∧ runs.length ≤ 5 ∧ 0 ≤ gap ∧ gap ≤ 5)
      (s_if (X := cxOf (L2N.CX P w) P w K mg base W.n_Line_init "Line.__init__" (defScope W.s_Line_init) f cdv A outer s H E) (t_w (w_or (t_cmp (c_lt (e_len B.len (e_var 1)) e_int)) fun h => w_or (t_cmp (c_gt (e_len B.len (e_var 1)) (e_gi i1))) fun h => w_or (t_cmp (c_lt (e_var 2) e_int)) fun h => w_or1 (t_cmp (c_gt (e_var 2) (e_gi i3))))) (fun h => s_one (s_rzN hcalm tk x rfl)) (fun h => s_nil ⟨rfl, by simp at h; omega⟩)) ?_
    rintro ρ ⟨rfl, c1, c2, c3, c4⟩
    refine s_mid (fun _ => False)
      (s_forC (X := cxOf (L2N.CX P w) P w K mg base W.n_Line_init "Line.__init__" (defScope W.s_Line_init) f cdv A outer s H E) (xs := runs) (enc := D.int) 3 hcalm nd ps (i_list (e_var 1)) (fun i ρ => (∃ y, ρ = [some (.d (.adr p)), some (.d (dIs runs)), some (.d (.int gap)), y]) ∧ ∀ r ∈ runs.take i, 1 ≤ r ∧ r ≤ 20)
        ⟨⟨_, rfl⟩, by simp⟩ (fun i ρ h => by obtain ⟨⟨y, rfl⟩, _⟩ := h; show 3 < 4; decide) (fun i r ρ hr h => ?_) fun ρ h => no ⟨c1, c2, c3, c4, by simpa using h.2⟩) (fun _ z => z.elim)
    obtain ⟨⟨y, rfl⟩, hall⟩ := h
    refine s_one (s_if (t_w (w_or (t_cmp (c_lt (e_var 3) e_int)) fun h => w_or1 (t_cmp (c_gt (e_var 3) (e_gi i2))))) (fun h => s_one (s_rzN hcalm tk x rfl)) (fun h => s_nil ⟨⟨_, rfl⟩, ?_⟩))
    intro q hq
    rw [List.take_succ, hr] at hq
    rcases List.mem_append.mp hq with hq | hq
    · exact hall q hq
    · have e : q = r := by simpa using hq
      subst e
      simp at h
      omega
  refine hS ⟨H, G, []⟩ [] _ H TmOnly.nil s0 _ ⟨fun _ _ _ z => z.elim, fun _ _ _ _ _ z => z.elim, fun _ _ _ z => z.elim, fun _ _ _ z => z.elim, fun cls ρ σ1 H1 q1 s1 => ?_⟩
  obtain ⟨G1, fs, ft, C, _, _⟩ := s1
  rw [q1]
  exact kE H1 fun a o e => C.prot a o e fun z => nomatch z
end
def KLnN (P : Program) (w : World) (K : PySem.W.Frag) (mg : Str → Option Value) (base : Heap) : Prop :=
  ∃ (fI : Addr) (fd : FuncData), Mk K (cLn K) fI ∧ FnOk P w K mg base (L2N.CX P w) 1 fI fd ["self", "runs", "clear"] (spInitN K) ∧ Binds K fd ["self", "runs", "clear"] []
section
variable {X : Cx} {W : WX} {ρ : Rho} {Φ : Ph} {a b : Expr} {runs : List Int} {gap : Int} {pos p : Pos} {j : Nat} {ra rb : R} {ta tb : T}
theorem line_noN (Z : KLnN X.prog X.w X.K X.mg X.base) (Lg : LnF X.K X.mg) (hr : Room 2 X.A) (tk : L2N.Takes X W) (ha : E X ρ a ra) (hb : E X ρ b rb) (va : view ρ ra = some ta) (vb : view ρ rb = some tb) (ea : ta.toD = dIs runs) (eb : tb.toD = .int gap) (no : ¬ okLn runs gap) {c : Cst} {τ : List (V × R)} {σ : L2.St} {H : Hp} (s : St X.K c ρ τ σ H) {Q : VK}
    (hE : ∀ H', St X.K c ρ τ σ H' → W (.ref (He.ga X.K "BadLine")) none σ H') (hg : Gl X "Line" := by rfl)
    (he : starEach (a :: [b]) X.env = (false, eval a X.env) :: starEach [b] X.env := by rfl) (he2 : starEach [b] X.env = (false, eval b X.env) :: starEach [] X.env := by rfl) (hpl : (backTo pos (starEach [b] X.env)).any (·.1) = false := by rfl) : teS X (.Call (.Name "Line" p) [a, b] [] pos) σ H Q := by
  obtain ⟨fI, fd, M, F, hb0⟩ := Z
  intro pins s0 I
  refine wpAny_Call_Name_kw (ld_glob I hg Lg.g ?_)
  have args := (paS (X := X) (es := [a, b])).run pos pins s0 σ H (fun vs H1 => vs.length = 2 ∧ St X.K c ρ ((vs.zip [ra, rb]).reverse ++ τ) σ H1) I (er_cons ha (er_cons hb er_nil he2) he c τ σ H s _ fun vs H1 hl s1 => ⟨hl, s1⟩)
  refine PySem.W.callWith_K (h₀ := X.base) I.ok.mod.kin M.kp (thn args fun us s1 hh => ?_) he hpl
  obtain ⟨vs, H1, I1, rv, hl2, st1⟩ := hh
  refine ⟨I1.kIn, ?_⟩
  have dr := st1.seeAll (ts := [ta, tb]) hl2 (by rw [List.map_cons, List.map_cons, va, vb]; rfl)
  have st0 : St X.K c ρ τ σ H1 := St.popAll st1
  rw [List.map_cons, List.map_cons, List.map_nil, ea, eb] at dr
  cases dr with | @cons v1 vs1 _ _ d1 dr =>
  cases dr with | @cons v2 vs2 _ _ d2 dr =>
  cases dr
  cases d2
  -- the new instance and its dict
  generalize hn : s1.heap.objs.size = n
  have I2 := Inv.made (C := cLn X.K) I1
  rw [hn] at I2
  have f1 : H1 (n + 1) = none := I1.hok.fresh (by omega)
  have f0 : H1 n = none := I1.hok.fresh (by omega)
  have sm : Same H1 (upd (upd H1 n (.own (n + 1))) (n + 1) (.ins (cLn X.K) n [])) := fun q o e => by
    rw [upd_ne (ne_of_none e f1), upd_ne (ne_of_none e f0)]; exact e
  let QQ : VK := fun _ _ => False
  have hsp : spInitN X.K [.ref (n + 1), v1, .int gap] (upd (upd H1 n (.own (n + 1))) (n + 1) (.ins (cLn X.K) n [])) QQ (WE W σ) :=
    ⟨n + 1, H1, runs, gap, v1, rfl, sm, d1, no, fun H' sm' => hE H' (st0.same (sm.trans sm'))⟩
  have rv2 : Vals (V.ref (n + 1) :: [v1, V.int gap]) (Value.ref (n + 1) :: us) := .cons rfl rv
  have len2 : (Value.ref (n + 1) :: us).length = 3 := by rw [← rv2.length]; rfl
  have bnd := hb0 { s1 with heap := (s1.heap.push PySem.W.emptyDict).push (PySem.W.instObj (cLn X.K) n) } (Value.ref (n + 1) :: us) I2.kIn (by simpa using len2)
  rw [List.append_nil] at bnd
  have hl3 : us.length = 2 := by simpa using len2
  refine wpAny_call (make_map (f := fI) I1.kIn M.makes M.init (beq_iff_eq.mp M.fn) ?_)
  rw [hn]
  refine codeAny_mono (F.run _ X.stack _ _ ⟨Value.ref (n + 1) :: us, []⟩ _ _ QQ (WE W σ) (hr.make (cLn X.K) us []) (I2.env0.make (cLn X.K) us []) bnd rv2 hsp) fun res s' hres => ?_
  cases res with
  | error ee => exact L2N.passAt tk σ pins _ _ ee s' I2 hres
  | ok fl =>
    cases fl with
    | ret u =>
      obtain ⟨v, H', I3, ru, ev⟩ := I2.after hres
      exact ev.elim
    | next => exact hres.elim
    | brk => exact hres.elim
    | cont => exact hres.elim
end
def Reads (z : Str) (runs : List Int) (gap : Int) : Prop := ∃ a c : Str, Txt.split z ⟨#[32]⟩ = [a, "clear", c] ∧ (Txt.split a ⟨#[45]⟩).map numV = runs.map some ∧ numV c = some gap ∧ okLn runs gap
theorem some_inj : ∀ {l m : List Int}, l.map some = m.map some → l = m
  | [], [], _ => rfl
  | a :: l, b :: m, h => by
    rw [List.map_cons, List.map_cons] at h
    have h1 := (List.cons.inj h).1
    have h2 := some_inj (List.cons.inj h).2
    cases h1
    rw [h2]
  | [], b :: m, h => by cases h
  | a :: l, [], h => by cases h
theorem Reads.det {z : Str} {r1 r2 : List Int} {g1 g2 : Int} (h1 : Reads z r1 g1) (h2 : Reads z r2 g2) : r1 = r2 ∧ g1 = g2 := by
  obtain ⟨a, c, e1, e2, e3, _⟩ := h1
  obtain ⟨b, d, f1, f2, f3, _⟩ := h2
  rw [e1] at f1
  cases f1
  rw [e2] at f2
  rw [e3] at f3
  cases f3
  exact ⟨some_inj f2, rfl⟩
theorem split_sh {z : Str} {ws : List Str} (h : Txt.split z ⟨#[32]⟩ = ws) {y : Str} (hy : y ∈ ws) : y.length ≤ z.length := by
  subst h
  exact PyProof.Rows.part_short hy
/-- three words or not -/
theorem three (ws : List Str) : (∃ a c : Str, ws = [a, "clear", c]) ∨ ws.length ≠ 3 ∨ ∃ a b c : Str, ws = [a, b, c] ∧ b ≠ "clear" := by
  match ws with
  | [a, b, c] =>
    by_cases h : b = "clear"
    · exact .inl ⟨a, c, by rw [h]⟩
    · exact .inr (.inr ⟨a, b, c, rfl, h⟩)
  | [] => exact .inr (.inl (by decide))
  | [a] => exact .inr (.inl (by show 1 ≠ 3; decide))
  | [a, b] => exact .inr (.inl (by show 2 ≠ 3; decide))
  | a :: b :: c :: d :: l => exact .inr (.inl (by simp))
/-- all words numbers, or one is none -/
theorem nums_or : ∀ ws : List Str, (∃ ns : List Int, ws.map numV = ns.map some) ∨ ∃ y ∈ ws, numV y = none
  | [] => .inl ⟨[], rfl⟩
  | y :: ws => by
    cases e : numV y with
    | none => exact .inr ⟨y, List.mem_cons_self, e⟩
    | some n =>
      rcases nums_or ws with ⟨ns, h⟩ | ⟨q, h1, h2⟩
      · exact .inl ⟨n :: ns, by rw [List.map_cons, List.map_cons, e, h]⟩
      · exact .inr ⟨q, List.mem_cons_of_mem _ h1, h2⟩
theorem nums_none {ws : List Str} {ns : List Int} (h : ws.map numV = ns.map some) {y : Str} (hy : y ∈ ws) : numV y ≠ none := by
  intro e
  have : numV y ∈ ws.map numV := List.mem_map.mpr ⟨y, hy, rfl⟩
  rw [h, e] at this
  obtain ⟨_, _, q⟩ := List.mem_map.mp this
  cases q
theorem nums_list {f : Str → T} (hf : ∀ y n, numV y = some n → f y = .d (.int n)) : ∀ {ws : List Str} {ns : List Int}, ws.map numV = ns.map some → T.lst (ws.map f) = tIs ns := by
  intro ws ns h
  unfold tIs
  refine congrArg T.lst ?_
  rw [List.map_map]
  induction ws generalizing ns with
  | nil =>
    cases ns with
    | nil => rfl
    | cons n ns => cases h
  | cons y ws ih =>
    cases ns with
    | nil => cases h
    | cons n ns =>
      rw [List.map_cons, List.map_cons] at h
      have h1 := (List.cons.inj h).1
      rw [List.map_cons, List.map_cons, hf y n h1, ih (List.cons.inj h).2]
      rfl
def spReadX (K : PySem.W.Frag) : Spec where
  α := Str
  enc := fun z => [.str z]
  pre := fun z => z.length ≤ 1000
  post := fun z t => ∃ runs gap, Reads z runs gap ∧ t = tLn (cLn K) runs gap
  exc := fun z c => (∀ runs gap, ¬ Reads z runs gap) ∧ c = .ref (He.ga K "BadText")
section
variable {P : Program} {w : World} {K : PySem.W.Frag} {mg : Str → Option Value} {base : Heap} {f : Addr} {fd : FuncData}
theorem kn_readX (F : Fun K "read" "read" W.s_read f fd) (hm : mg "read" = some (.ref f)) (hb : Binds K fd ["text"] []) (B : Bt mg) (Z : KLn P w K mg base) (ZN : KLnN P w K mg base) (x : ExF K mg "BadText") (gB : Glo K mg "BadLine") (eT : PySem.W.exmOne K (.ref (He.ga K "BadLine")) (.ref (He.ga K "BadLine")) = some true) (eB : PySem.W.exmOne K (.ref (He.ga K "BadText")) (.ref (He.ga K "BadLine")) = some false) (F1 : Kn P w K mg base "number_of" 1 (spNumX K)) : Kn P w K mg base "read" 3 (spReadX K) := by
  refine kn_of F hm hb W.sc_read (fun _ _ => rfl) ?_
  rintro cdv A outer s H E W0 Y z hz
  have hz : z.length ≤ 1000 := hz
  have nd := Y.nd
  have R1 : Room 1 _ := Y.room.mono (by decide)
  show S _ W0 [some (.d (.str z)), none, none, none] _ _
  refine s_cons (s_set 1 (e_split (e_var 0) (y := ⟨#[32]⟩) (by rw [← blank_eq]; exact e_str) rfl (by rw [sizeLine_eq]; omega)) ?_)
  generalize hws : Txt.split z ⟨#[32]⟩ = ws
  rcases three ws with ⟨a, c, rfl⟩ | h3 | ⟨a, b, c, rfl, hbc⟩
  rotate_left
  · refine s_mid (fun _ => False) (s_if (t_w (w_or (l := false) (t_cmp (c_neI (e_len B.len (e_varP 1)) e_int)) fun h => ?_)) (fun h => s_one (s_rz Y x ⟨fun runs gap q => ?_, rfl⟩)) (fun h => ?_)) (fun _ z => z.elim)
    · exfalso
      simp at h
      exact h3 (by omega)
    · obtain ⟨a, c, e, _⟩ := q
      rw [hws] at e
      rw [e] at h3
      exact h3 rfl
    · exfalso
      simp at h
      exact h3 (by omega)
  · refine s_mid (fun _ => False) (s_if (t_w (w_or (t_cmp (c_neI (e_len B.len (e_varP 1)) e_int)) fun _ => w_or1 (t_cmp (c_neS (e_ix (e_varP 1) e_int (.PL rfl rfl)) e_str)))) (fun h => s_one (s_rz Y x ⟨fun runs gap q => ?_, rfl⟩)) (fun h => ?_)) (fun _ z => z.elim)
    · obtain ⟨a', c', e, _⟩ := q
      rw [hws] at e
      simp at e
      exact hbc e.2.1
    · exfalso
      simp at h
      exact hbc h
  have la := split_sh hws (y := a) (by simp)
  have lc := split_sh hws (y := c) (by simp)
  refine s_mid (fun ρ => ρ = [some (.d (.str z)), some (.lst [.d (.str a), .d (.str "clear"), .d (.str c)]), none, none]) (s_if (t_w (w_or (t_cmp (c_neI (e_len B.len (e_varP 1)) e_int)) fun _ => w_or1 (t_cmp (c_neS (e_ix (e_varP 1) e_int (.PL rfl rfl)) e_str)))) (fun h => ?_) (fun h => s_nil rfl)) ?_
  · exfalso
    simp at h
  rintro ρ rfl
  have hx1 := PyProof.Rows.split_le a ⟨#[45]⟩
  refine s_mid (fun ρ => ∃ ns, (Txt.split a ⟨#[45]⟩).map numV = ns.map some ∧ ρ = [some (.d (.str z)), some (.lst [.d (.str a), .d (.str "clear"), .d (.str c)]), some (tIs ns), none])
    (s_lcX 2 3 Y (xs := Txt.split a ⟨#[45]⟩) (enc := D.str) (f := fun y => T.d (.int ((numV y).getD 0))) (good := fun y => (numV y).isSome = true) (bad := fun cls => cls = .ref (He.ga K "BadText") ∧ ∃ y ∈ Txt.split a ⟨#[45]⟩, numV y = none)
      (i_list (e_fzL (e_split (e_ix (e_varP 1) e_int (.PL rfl rfl)) (y := ⟨#[45]⟩) (by rw [← dash_eq]; exact e_str) rfl (by rw [sizeLine_eq]; omega)))) rfl F1 R1
      (fun y hy s H C cl fp Ex => ea_cons (e_var 3) ea_nil) (fun y => y) (fun y hy => ⟨rfl, ?_, fun t ht => ?_, fun cls hc => ⟨hc.2, y, hy, hc.1⟩⟩) (fun hg => ?_) (fun cls hc => ⟨fun runs gap q => ?_, hc.1⟩) (by omega)) ?_
  · have := PyProof.Rows.part_short hy
    show y.length ≤ 100000
    omega
  · obtain ⟨n, e, rfl⟩ := ht
    refine ⟨by rw [e]; rfl, ?_⟩
    rw [e]
    rfl
  · rcases nums_or (Txt.split a ⟨#[45]⟩) with ⟨ns, e⟩ | ⟨y, hy, e⟩
    · refine ⟨ns, e, ?_⟩
      rw [nums_list (fun y n e => by rw [e]; rfl) e]
      rfl
    · have := hg y hy
      rw [e] at this
      cases this
  · obtain ⟨a', c', e1, e2, _⟩ := q
    rw [hws] at e1
    cases e1
    obtain ⟨_, y, hy, e⟩ := hc
    exact nums_none e2 hy e
  rintro ρ ⟨ns, hns, rfl⟩
  have hpa : ∀ hd : Option Value, PassesOwnAt (model P w) ((cxOf (L2.CX P w) P w K mg base W.n_read "read" (defScope W.s_read) f cdv A outer s H E).A.mark hd) (cxOf (L2.CX P w) P w K mg base W.n_read "read" (defScope W.s_read) f cdv A outer s H E).A (cxOf (L2.CX P w) P w K mg base W.n_read "read" (defScope W.s_read) f cdv A outer s H E).env (cxOf (L2.CX P w) P w K mg base W.n_read "read" (defScope W.s_read) f cdv A outer s H E).xe := L2H.passesAt_of (X := cxOf (L2.CX P w) P w K mg base W.n_read "read" (defScope W.s_read) f cdv A outer s H E) rfl
  have asm : (∃ gap, numV c = some gap ∧ okLn ns gap) ∨ ∀ runs gap, ¬ Reads z runs gap := by
    by_cases q : ∃ gap, numV c = some gap ∧ okLn ns gap
    · exact .inl q
    · refine .inr fun runs gap r => q ?_
      obtain ⟨a', c', e1, e2, e3, e4⟩ := r
      rw [hws] at e1
      cases e1
      rw [hns] at e2
      rw [some_inj e2]
      exact ⟨gap, e3, e4⟩
  rcases asm with ⟨gap, hgap, ok⟩ | hno
  · refine s_one (s_tryOnly Y ⟨rfl, by decide, .inl gB⟩ (Xb := fun _ _ => False) (fun W' pn xe Y' => ?_) (fun _ _ h => h.elim))
    exact s_one (s_ret (e_lineT Z (Y'.room.mono (by decide)) (e_varP 2) (e_call F1 (Y'.room.mono (by decide)) (ea_cons (e_ix (e_varP 1) e_int (.PL (x := .str c) rfl rfl)) ea_nil) (t := .d (.int gap)) c rfl (show c.length ≤ 100000 by omega) (fun t h => by
      obtain ⟨n, e, rfl⟩ := h
      rw [hgap] at e
      cases e
      rfl) fun _ h => by
      have h := h.1
      rw [hgap] at h
      cases h) ok (tIs_toD _) rfl) ⟨ns, gap, ⟨a, c, hws, hns, hgap, ok⟩, rfl⟩)
  refine s_one (s_tryRaise Y ⟨rfl, by decide, .inl gB⟩ hpa PySem.F.excBase_ValueError x.x x.g x.k (raises_own x.b x.t) ⟨hno, rfl⟩ fun W' pn xe tkN Y' c1 τ σ H1 tm s1 D P1 hW => ?_)
  cases hc : numV c with
  | none =>
    refine (s_one (s_retLineX Y' Z F1 (Y'.room.mono (by decide)) (e_varP 2) (ea_cons (e_ix (e_varP 1) e_int (.PL (x := .str c) rfl rfl)) ea_nil) (x := c) rfl (show c.length ≤ 100000 by omega) (fun t h => ?_) (fun cls h => ?_)) : S _ _ _ _ { nx := fun _ => False, ex := fun cls _ => cls = .ref (He.ga K "BadText") }) c1 τ σ H1 tm s1 D ⟨fun _ _ _ z => z.elim, fun _ _ _ _ _ z => z.elim, fun _ _ _ z => z.elim, fun _ _ _ z => z.elim, fun cls ρ σ H q s' => ?_⟩
    · obtain ⟨n, e, _⟩ := h
      rw [hc] at e
      cases e
    · exact h.2
    · subst q
      exact ⟨eB, P1.ex _ ρ _ _ ⟨hno, rfl⟩ s'⟩
  | some n =>
    have no : ¬ okLn ns n := fun ok => hno ns n ⟨a, c, hws, hns, hc, ok⟩
    refine tb_of (pss_one psS) (ts_of (ps_ret peS) (line_noN (X := (cxOf (L2.CX P w) P w K mg base W.n_read "read" (defScope W.s_read) f cdv A outer s H E).tr pn xe) ZN Z.ln (Y'.room.mono (by decide)) tkN (e_varP 2) (e_call F1 (Y'.room.mono (by decide)) (ea_cons (e_ix (e_varP 1) e_int (.PL (x := .str c) rfl rfl)) ea_nil) (t := .d (.int n)) c rfl (show c.length ≤ 100000 by omega) (fun t h => ?_) fun _ h => ?_) rfl rfl (tIs_toD _) rfl no s1 (fun H' s' => hW _ _ _ eT s')))
    · obtain ⟨m, e, rfl⟩ := h
      rw [hc] at e
      cases e
      rfl
    · have h := h.1
      rw [hc] at h
      cases h
end
end DL
namespace DL
open PySem PySem.Spec PyProof.Rows L2
theorem hu65 {A : Around} {k : Nat} (r : Room k A) : A.units + 65 < cLine := by have := r.un; omega
def dNum (z : Str) : D := match numV z with
  | some n => .int n
  | none => .non
theorem dNum_no {z : Str} (h : ¬ chkS z = true) : dNum z = .non := by
  unfold dNum
  rw [numV_no h]
theorem dNum_none {z : Str} (h : numV z = none) : dNum z = .non := by
  unfold dNum
  rw [h]
theorem dNum_some {z : Str} {n : Int} (h : numV z = some n) : dNum z = .int n := by
  unfold dNum
  rw [h]
theorem dNum_ok (z : Str) (n : Nat) : (dNum z).ok n := by
  unfold dNum
  cases numV z <;> cases n <;> trivial
theorem eqv_nn : PyData.eqv (D.py .non) (D.py .non) = true := by
  simp [D.py, PyData.eqv]
theorem eqv_in (i : Int) : PyData.eqv (D.int i).py (D.py .non) = false := by
  simp [D.py, PyData.eqv]
def spLawNum : Spec where
  α := Str
  enc := fun z => [.str z]
  pre := fun z => z.length ≤ 100000
  post := fun z t => t = .d (dNum z)
def spLawDue : Spec where
  α := Str
  enc := fun z => [.str z]
  pre := fun z => z.length ≤ 1000
  post := fun z t => (∃ runs gap, Reads z runs gap ∧ t = .tup [tIs runs, .d (.int gap)]) ∨ ((∀ runs gap, ¬ Reads z runs gap) ∧ t = .d .non)
section
variable {P : Program} {w : World} {K : PySem.W.Frag} {mg : Str → Option Value} {base : Heap} {f : Addr} {fd : FuncData}
theorem kn_lawNum (F : Fun K "_law_number" "_law_number" W.s__law_number f fd) (hm : mg "_law_number" = some (.ref f)) (hb : Binds K fd ["word"] []) (B : Bt mg) : Kn P w K mg base "_law_number" 1 spLawNum := by
  refine kn_of F hm hb W.sc__law_number (fun _ _ => rfl) ?_
  rintro cdv A outer s H E W0 Y (z : Str) hp
  have hp : z.length ≤ 100000 := hp
  have hl : z.length ≤ sizeLine := by rw [sizeLine_eq]; omega
  have nd := Y.nd
  show S _ W0 [some (.d (.str z)), none] _ _
  cases hz : z.cps.toList with
  | nil =>
    have e0 : z.length = 0 := by rw [len_cps, hz]; rfl
    have ez : z = "" := str_eq (by rw [hz]; decide)
    refine s_mid (fun _ => False) (s_if (t_w (w_or (l := false) (t_cmp (c_lt (e_lenS B.len (e_var 0) hl) e_int)) fun h => ?_)) (fun h => s_one (s_ret e_non ?_)) (fun h => ?_)) (fun _ z => z.elim)
    · rw [e0] at h
      exact absurd h (by decide)
    · show (T.d .non) = .d (dNum z)
      rw [dNum_no fun q => (chk_parts q).1 ez]
    · rw [e0] at h
      exact absurd h (by decide)
  | cons c l =>
  have e1 : z.length = l.length + 1 := by rw [len_cps, hz]; rfl
  have hne : z ≠ "" := fun q => by
    rw [q] at hz
    have : (("" : Str).cps.toList) = [] := by decide
    rw [this] at hz
    cases hz
  have l0 : ("0" : Str).length = 1 := by decide +kernel
  refine s_mid (fun ρ => (z.length ≤ 2 ∧ (decide ((⟨#[c]⟩ : Str) = "0") && !decide (z = "0")) = false) ∧ ρ = [some (.d (.str z)), none]) (s_if (t_w (w_or (t_cmp (c_lt (e_lenS B.len (e_var 0) hl) e_int)) fun _ => w_or (t_cmp (c_gt (e_lenS B.len (e_var 0) hl) e_int)) fun _ => w_or1 (t_w (w_and (t_cmp (c_eqS (e_ix (e_var 0) e_int (.X hl (atI_get' (n := 0) (x := c) (by rw [hz]; rfl) rfl))) e_str)) fun _ => w_and1 (t_cmp (c_gt (e_lenS B.len (e_var 0) hl) e_int)))))) (fun h => s_one (s_ret e_non ?_)) (fun h => s_nil ⟨?_, rfl⟩)) ?_
  · show (T.d .non) = .d (dNum z)
    rw [dNum_no fun q => ?_]
    obtain ⟨p1, p2, ⟨c', l', p3, p4⟩, _⟩ := chk_parts q
    rw [hz] at p3
    cases p3
    rcases Bool.or_eq_true_iff.mp h with h | h
    · have := of_decide_eq_true h
      omega
    rcases Bool.or_eq_true_iff.mp h with h | h
    · have := of_decide_eq_true h
      omega
    obtain ⟨h1, h2⟩ := Bool.and_eq_true_iff.mp h
    rw [h1, Bool.true_and] at p4
    have p4 : decide (z = "0") = true := by simpa using p4
    have p5 := of_decide_eq_true p4
    have p6 := of_decide_eq_true h2
    rw [p5, l0] at p6
    omega
  · obtain ⟨a1, a2⟩ := Bool.or_eq_false_iff.mp h
    obtain ⟨a2, a3⟩ := Bool.or_eq_false_iff.mp a2
    have a2 := of_decide_eq_false a2
    refine ⟨by omega, ?_⟩
    by_cases hc : (⟨#[c]⟩ : Str) = "0"
    · rw [decide_eq_true hc, Bool.true_and] at a3
      have a3 := of_decide_eq_false a3
      have ll : l = [] := List.length_eq_zero_iff.mp (by omega)
      subst ll
      have ez : z = ⟨#[c]⟩ := str_eq hz
      rw [ez, decide_eq_true hc]
      rfl
    · rw [decide_eq_false hc]
      rfl
  rintro ρ ⟨⟨h2, h4⟩, rfl⟩
  refine s_mid (fun ρ => (∀ c ∈ z.cps.toList, c ∈ figs) ∧ ∃ y, ρ = [some (.d (.str z)), y]) (s_for (xs := z.cps.toList) (enc := encC) 1 Y (i_str (e_var 0)) (fun i ρ => (∀ c ∈ z.cps.toList.take i, c ∈ figs) ∧ ∃ y, ρ = [some (.d (.str z)), y]) ⟨by simp, _, rfl⟩ (fun i ρ h => by obtain ⟨_, _, rfl⟩ := h; show 1 < 2; decide) (fun i d ρ hc h => ?_) fun ρ h => by rw [List.take_length] at h; exact h) ?_
  · obtain ⟨hall, y, rfl⟩ := h
    refine s_one (s_if (t_cmp (c_notInS (e_var 1) e_str)) (fun h => s_one (s_ret e_non ?_)) (fun h => s_nil ⟨fun e he => ?_, _, rfl⟩))
    · show (T.d .non) = .d (dNum z)
      rw [dNum_no fun q => ?_]
      have m := (chk_parts q).2.2.2 d (List.mem_of_getElem? hc)
      rw [figs_eq, decide_eq_true m] at h
      cases h
    · rw [List.take_succ, hc] at he
      rcases List.mem_append.mp he with m | m
      · exact hall e m
      · have : e = d := by simpa using m
        subst this
        rw [figs_eq] at h
        simpa using h
  rintro ρ ⟨hall, y, rfl⟩
  have hchk : chkS z = true := chk_mk hne h2 hz h4 hall
  obtain ⟨n, hn, _, _⟩ := chk_int hchk
  refine s_one (s_ret (e_intS (n := n) B.int (e_var 0) hn (by omega)) ?_)
  show (T.d (.int n)) = .d (dNum z)
  rw [dNum_some (n := n) (by unfold numV; rw [if_pos hchk]; exact hn)]
theorem kn_lawDue (F : Fun K "_law_due" "_law_due" W.s__law_due f fd) (hm : mg "_law_due" = some (.ref f)) (hb : Binds K fd ["signs"] []) (B : Bt mg) (F1 : Kn P w K mg base "_law_number" 1 spLawNum) : Kn P w K mg base "_law_due" 2 spLawDue := by
  refine kn_of F hm hb W.sc__law_due (fun _ _ => rfl) ?_
  rintro cdv A outer s H E W0 Y (z : Str) hz
  have hz : z.length ≤ 1000 := hz
  have nd := Y.nd
  have R1 : Room 1 _ := Y.room
  show S _ W0 [some (.d (.str z)), none, none, none, none] _ _
  refine s_cons (s_set 1 (e_split (e_var 0) (y := ⟨#[32]⟩) (by rw [← blank_eq]; exact e_str) rfl (by rw [sizeLine_eq]; omega)) ?_)
  generalize hws : Txt.split z ⟨#[32]⟩ = ws
  rcases three ws with ⟨a, c, rfl⟩ | h3 | ⟨a, b, c, rfl, hbc⟩
  rotate_left
  · refine s_mid (fun _ => False) (s_if (t_w (w_or (l := false) (t_cmp (c_neI (e_len B.len (e_varP 1)) e_int)) fun h => ?_)) (fun h => s_one (s_ret e_non (.inr ⟨fun runs gap q => ?_, rfl⟩))) (fun h => ?_)) (fun _ z => z.elim)
    · exfalso
      simp at h
      exact h3 (by omega)
    · obtain ⟨a, c, e, _⟩ := q
      rw [hws] at e
      rw [e] at h3
      exact h3 rfl
    · exfalso
      simp at h
      exact h3 (by omega)
  · refine s_mid (fun _ => False) (s_if (t_w (w_or (t_cmp (c_neI (e_len B.len (e_varP 1)) e_int)) fun _ => w_or1 (t_cmp (c_neS (e_ix (e_varP 1) e_int (.PL rfl rfl)) e_str)))) (fun h => s_one (s_ret e_non (.inr ⟨fun runs gap q => ?_, rfl⟩))) (fun h => ?_)) (fun _ z => z.elim)
    · obtain ⟨a', c', e, _⟩ := q
      rw [hws] at e
      simp at e
      exact hbc e.2.1
    · exfalso
      simp at h
      exact hbc h
  have la := split_sh hws (y := a) (by simp)
  have lc := split_sh hws (y := c) (by simp)
  refine s_mid (fun ρ => ρ = [some (.d (.str z)), some (.lst [.d (.str a), .d (.str "clear"), .d (.str c)]), none, none, none]) (s_if (t_w (w_or (t_cmp (c_neI (e_len B.len (e_varP 1)) e_int)) fun _ => w_or1 (t_cmp (c_neS (e_ix (e_varP 1) e_int (.PL rfl rfl)) e_str)))) (fun h => ?_) (fun h => s_nil rfl)) ?_
  · exfalso
    simp at h
  rintro ρ rfl
  have hx1 := PyProof.Rows.split_le a ⟨#[45]⟩
  have hx0 := PyProof.Rows.split_pos a ⟨#[45]⟩
  have hx2 : ∀ y ∈ Txt.split a ⟨#[45]⟩, y.length ≤ 100000 := fun y hy => by
    have := PyProof.Rows.part_short hy
    omega
  generalize hxs : Txt.split a ⟨#[45]⟩ = xs at hx0 hx1 hx2
  refine s_mid (fun ρ => ρ = [some (.d (.str z)), some (.lst [.d (.str a), .d (.str "clear"), .d (.str c)]), some (.lst (xs.map fun y => T.d (dNum y))), none, none])
    (s_lc 2 4 Y (xs := xs) (enc := D.str) (f := fun y => T.d (dNum y)) (i_list (e_fzL (e_as (e_split (e_ix (e_varP 1) e_int (.PL rfl rfl)) (y := ⟨#[45]⟩) (by rw [← dash_eq]; exact e_str) rfl (by rw [sizeLine_eq]; omega)) (by rw [hxs])))) rfl
      (fun s H C cl fp y hy => e_call F1 R1 (ea_cons (e_var 4) ea_nil) y rfl (hx2 y hy) (fun _ h => h) fun _ h => h) rfl (by omega)) ?_
  rintro ρ rfl
  refine s_mid (fun ρ => ρ = [some (.d (.str z)), some (.lst [.d (.str a), .d (.str "clear"), .d (.str c)]), some (.lst (xs.map fun y => T.d (dNum y))), some (.d (dNum c)), none])
    (s_call 3 Y F1 R1 (ea_cons (e_ix (e_varP 1) e_int (.PL (x := .str c) rfl rfl)) ea_nil) c rfl (show c.length ≤ 100000 by omega) (by exact fun t h => by rw [show t = _ from h]; rfl) (by exact fun c h => h.elim)) ?_
  rintro ρ rfl
  rcases nums_or xs with ⟨ns, hns⟩ | ⟨y, hy, he⟩
  rotate_left
  · have eD : (T.lst (xs.map fun y => T.d (dNum y))).toD = .lst (xs.map dNum) := by
      rw [T.toD, T.toDs_map, List.map_map]
      rfl
    have any : ((xs.map dNum).any fun q => PyData.eqv q.py (D.py .non)) = true := List.any_eq_true.mpr ⟨.non, List.mem_map.mpr ⟨y, hy, dNum_none he⟩, eqv_nn⟩
    refine s_mid (fun _ => False) (s_if (t_w (w_or (l := false) (t_cmp (c_in (n1 := 1) (n2 := 1) (t1 := .d .non) (ds := xs.map dNum) (hu65 Y.room) e_non (e_varP 2) rfl rfl eD trivial (fun d hd => by obtain ⟨q, _, rfl⟩ := List.mem_map.mp hd; exact dNum_ok q 0))) fun h => ?_)) (fun h => s_one (s_ret e_non (.inr ⟨fun runs gap q => ?_, rfl⟩))) (fun h => ?_)) (fun _ z => z.elim)
    · exfalso
      rw [show (T.d D.non).toD = D.non from rfl, any] at h
      cases h
    · obtain ⟨a', c', e1, e2, _⟩ := q
      rw [hws] at e1
      cases e1
      rw [hxs] at e2
      exact nums_none e2 hy he
    · exfalso
      rw [show (T.d D.non).toD = D.non from rfl, any] at h
      cases h
  have eL : T.lst (xs.map fun y => T.d (dNum y)) = tIs ns := nums_list (fun y n e => by rw [dNum_some e]) hns
  rw [eL]
  have hnl : ns.length = xs.length := by
    have := congrArg List.length hns
    rw [List.length_map, List.length_map] at this
    exact this.symm
  have any : ((ns.map D.int).any fun q => PyData.eqv q.py (D.py .non)) = false := by
    rw [List.any_eq_false]
    intro q hq
    obtain ⟨i, _, rfl⟩ := List.mem_map.mp hq
    rw [eqv_in]
    simp
  cases hc : numV c with
  | none =>
    rw [dNum_none hc]
    refine s_mid (fun _ => False) (s_if (t_w (w_or (t_cmp (c_in (n1 := 1) (n2 := 1) (t1 := .d .non) (ds := ns.map D.int) (hu65 Y.room) e_non (e_varP 2) rfl rfl (tIs_toD ns) trivial (ok_ints ns 0))) fun _ => w_or (l := false) (t_cmp (c_isN (e_var 3))) fun h => ?_)) (fun h => s_one (s_ret e_non (.inr ⟨fun runs gap q => ?_, rfl⟩))) (fun h => ?_)) (fun _ z => z.elim)
    · cases h
    · obtain ⟨a', c', e1, _, e3, _⟩ := q
      rw [hws] at e1
      cases e1
      rw [hc] at e3
      cases e3
    · exfalso
      have := (Bool.or_eq_false_iff.mp h).2
      cases this
  | some n =>
  rw [dNum_some hc]
  obtain ⟨nc, ni⟩ := numV_some hc
  obtain ⟨n', hn', n0, n9⟩ := chk_int nc
  rw [ni] at hn'
  cases hn'
  have hne : ns ≠ [] := fun e => by rw [e] at hnl; simp at hnl; omega
  obtain ⟨i, hi, hle⟩ := exists_min hne
  obtain ⟨j, hj, hge⟩ := exists_max hne
  refine s_mid (fun ρ => okLn ns n ∧ ρ = [some (.d (.str z)), some (.lst [.d (.str a), .d (.str "clear"), .d (.str c)]), some (tIs ns), some (.d (.int n)), none])
    (s_if (t_w (w_or (t_cmp (c_in (n1 := 1) (n2 := 1) (t1 := .d .non) (ds := ns.map D.int) (hu65 Y.room) e_non (e_varP 2) rfl rfl (tIs_toD ns) trivial (ok_ints ns 0))) fun _ => w_or (t_cmp (c_isN (e_var 3))) fun _ => w_or (t_cmp (c_gt (e_var 3) e_int)) fun _ => w_or (t_cmp (c_gt (e_len B.len (e_varP 2) rfl (tIs_len ns)) e_int)) fun _ => w_or (t_cmp (c_lt (e_minL Y.calm B.min (e_varP 2) rfl isDL.l hi hle) e_int)) fun _ => w_or1 (t_cmp (c_gt (e_maxL Y.calm B.max (e_varP 2) rfl isDL.l hj hge) e_int)))) (fun h => s_one (s_ret e_non (.inr ⟨fun runs gap q => ?_, rfl⟩))) (fun h => s_nil ⟨?_, rfl⟩)) ?_
  · obtain ⟨a', c', e1, e2, e3, e4⟩ := q
    rw [hws] at e1
    cases e1
    rw [hxs, hns] at e2
    have e2 := some_inj e2
    subst e2
    rw [hc] at e3
    cases e3
    obtain ⟨b1, b2, b3, b4, b5⟩ := e4
    have c1 := b5 i hi
    have c2 := b5 j hj
    rw [show (T.d D.non).toD = D.non from rfl, any, show (T.d (D.int n)).isN = false from rfl, Bool.false_or, Bool.false_or] at h
    simp only [Bool.or_eq_true, decide_eq_true_eq] at h
    omega
  · rw [show (T.d D.non).toD = D.non from rfl, any, show (T.d (D.int n)).isN = false from rfl, Bool.false_or, Bool.false_or] at h
    simp only [Bool.or_eq_false_iff, decide_eq_false_iff_not] at h
    refine ⟨by omega, by omega, n0, by omega, fun r hr => ?_⟩
    have c1 := hle r hr
    have c2 := hge r hr
    omega
  rintro ρ ⟨ok, rfl⟩
  exact s_one (s_retMv 2 (e_varP 2) (e_var 3) rfl (.inl ⟨ns, n, ⟨a, c, hws, by rw [hxs]; exact hns, hc, ok⟩, rfl⟩))
end
end DL
namespace DL
open PySem PySem.Spec PyProof.Rows L2
structure ES (X : Cx) (ρ : Rho) (e : Expr) (n : Nat) : Prop where
  run : ER X ρ e fun t => ∃ z : Str, z.length ≤ n ∧ t = .d (.str z)
/-- the judgements of statements, shut: a goal is not unfolded by the way -/
structure SO (X : Cx) (W : WX) (ρ : Rho) (sts : List Stmt) (Φ : Ph) : Prop where
  run : S X W ρ sts Φ
structure S1O (X : Cx) (W : WX) (ρ : Rho) (st : Stmt) (Φ : Ph) : Prop where
  run : S1 X W ρ st Φ
theorem cutD_map {α : Type} (g : α → D) (xs : List α) (lo hi : Option Int) : ∃ ys : List α, cutD (xs.map g) lo hi = ys.map g ∧ ys.length ≤ xs.length ∧ ∀ y ∈ ys, y ∈ xs := by
  refine ⟨(xs.drop (HT.sIx xs.length 0 lo)).take (HT.sIx xs.length xs.length hi - HT.sIx xs.length 0 lo), ?_, ?_, fun y hy => List.mem_of_mem_drop (List.mem_of_mem_take hy)⟩
  · unfold cutD
    rw [List.length_map, List.map_take, List.map_drop]
  · rw [List.length_take, List.length_drop]
    omega
theorem rep_strs {b : Str} : ∀ k : Nat, (List.replicate k [D.str b]).flatten = (List.replicate k b).map D.str
  | 0 => rfl
  | k + 1 => by
    rw [List.replicate_succ, List.replicate_succ, List.flatten_cons, List.map_cons, rep_strs k]
    rfl
section
variable {X : Cx} {W : WX} {ρ : Rho} {Φ : Ph} {a b e c0 : Expr} {r : R} {t : T} {pos apos p0 : Pos} {m n k : Nat} {st : Stmt} {rest A B : List Stmt} {z : Bool}
theorem es_of {z : Str} (h : E X ρ e (.tm (.d (.str z)))) (hl : z.length ≤ n) : ES X ρ e n := ⟨er_mono (er_of h) fun t q => ⟨z, hl, q⟩⟩
theorem es_lit {z : Str} {kk : Nat} (hl : z.length ≤ n) : ES X ρ (.Constant (.str z) kk pos) n := es_of e_str hl
theorem es_er (h : ER X ρ e fun t => ∃ z : Str, z.length ≤ n ∧ t = .d (.str z)) : ES X ρ e n := ⟨h⟩
theorem es_add (ha : ES X ρ a m) (hb : ES X ρ b n) (hk : m + n = k) (hl : k ≤ 100000) : ES X ρ (.BinOp a .Add b pos) k := ⟨fun c τ σ H s Q q =>
  te_of (pe_op op_add_str peS peS) (ha.run c τ σ H s _ fun t ht v H1 s1 => hb.run c _ σ H1 s1 _ fun u hu v2 H2 s2 => by
    obtain ⟨x, hx, rfl⟩ := ht
    obtain ⟨y, hy, rfl⟩ := hu
    obtain rfl := s2.vstr
    obtain rfl := s2.pop.vstr
    exact ⟨x, y, rfl, rfl, by rw [sizeLine_eq]; omega, q _ ⟨x ++ y, by rw [Str.length_append]; omega, rfl⟩ _ _ (s2.pop.pop.push fun _ => .str _)⟩)⟩
theorem es_join {kk : Nat} {x : Str} {ys : List Str} (hb : E X ρ e r) (hv : view ρ r = some t) (hd : isDL t (ys.map D.str)) (hx : x.length = 1) (h1 : ys.length ≤ 20) (h2 : ∀ y ∈ ys, y.length ≤ 10) (hs : starEach [e] X.env = [(false, eval e X.env)]) (hbase : attributeBase (.Constant (.str x) kk p0) "join" X.env (eval (.Constant (.str x) kk p0) X.env) = eval (.Constant (.str x) kk p0) X.env) (hline : (apos.endLine == pos.line) = true) :
    ES X ρ (.Call (.Attribute (.Constant (.str x) kk p0) "join" apos) [e] [] pos) 300 := by
  have h3 := StrLaws.sumLen_le (B := 10) ys h2
  have h4 : ys.length * x.length ≤ 20 := by rw [hx]; omega
  refine es_of (e_join e_str hb hv hd (by omega) hs hbase hline) ?_
  show (PySem.Builtin.Str.glued x ys).length ≤ 300
  rw [StrLaws.glued_eq_join]
  have := StrLaws.join_length_le x ys
  omega
/-- sep.join(e) + text + g -/
theorem es_line {kk k2 : Nat} {x y : Str} {g : Expr} {ys : List Str} {p1 p2 p3 : Pos} (hb : E X ρ e r) (hv : view ρ r = some t) (hd : isDL t (ys.map D.str)) (hx : x.length = 1) (h1 : ys.length ≤ 20) (h2 : ∀ y ∈ ys, y.length ≤ 10) (hy : y.length ≤ 10) (hg : ES X ρ g 10) (hs : starEach [e] X.env = [(false, eval e X.env)] := by rfl) (hbase : attributeBase (.Constant (.str x) kk p0) "join" X.env (eval (.Constant (.str x) kk p0) X.env) = eval (.Constant (.str x) kk p0) X.env := by rfl) (hline : (apos.endLine == pos.line) = true := by rfl) :
    ES X ρ (.BinOp (.BinOp (.Call (.Attribute (.Constant (.str x) kk p0) "join" apos) [e] [] pos) .Add (.Constant (.str y) k2 p1) p2) .Add g p3) 320 :=
  es_add (es_add (es_join hb hv hd hx h1 h2 hs hbase hline) (es_lit hy) rfl (by decide)) hg rfl (by decide)
theorem so_mid (J : Rho → Prop) (h : S1O X W ρ st { Φ with nx := J }) (k : ∀ ρ', J ρ' → SO X W ρ' rest Φ) : SO X W ρ (st :: rest) Φ := ⟨s_mid J h.run fun ρ' q => (k ρ' q).run⟩
theorem so_nil (h : Φ.nx ρ) : SO X W ρ [] Φ := ⟨s_nil h⟩
theorem so_one (h : S1O X W ρ st Φ) : SO X W ρ [st] Φ := ⟨s_one h.run⟩
theorem so_fz (i : Nat) (t : T) {sts : List Stmt} (ht : ρ[i]? = some (some t)) (h : SO X W (ρ.set i (some (.d t.toD))) sts Φ) : SO X W ρ sts Φ := ⟨s_fz i t ht h.run⟩
theorem so_if (hc : Tt X ρ c0 z) (h1 : z = true → SO X W ρ A Φ) (h2 : z = false → SO X W ρ B Φ) : S1O X W ρ (.If c0 A B pos) Φ := ⟨s_if hc (fun q => (h1 q).run) fun q => (h2 q).run⟩
theorem so_retS (he : ES X ρ e n) (h : ∀ z : Str, z.length ≤ n → Φ.rt (.d (.str z)) ρ) : S1O X W ρ (.Return (some e) pos) Φ := ⟨s_retR he.run fun t ht => by
  obtain ⟨z, h1, rfl⟩ := ht
  exact h z h1⟩
theorem so_setS (i : Nat) {nm : Str} {pos' : Pos} (he : ES X ρ e n) (h : ∀ z : Str, z.length ≤ n → Φ.nx (ρ.set i (some (.d (.str z))))) (hρ : Nat.ble (i + 1) ρ.length = true := by rfl) (hi : X.N[i]? = some nm := by rfl) (hN : X.N.Nodup := by assumption) (hx : Loc X.env.scope nm := by first | exact Or.inl rfl | exact Or.inr rfl)
    (hs : swapsWith e (some (.Name nm pos')) pos.line X.env = pure false := by rfl) (hf : X.fn nm = true ∨ X.env.scope.names.lookup nm = some .local := by first | exact .inl rfl | exact .inr rfl | assumption) : S1O X W ρ (.Assign [.Name nm pos'] e pos) Φ :=
  ⟨s_setR i he.run (fun t ht => by
    obtain ⟨z, h1, rfl⟩ := ht
    exact h z h1) hρ hi hN hx hs hf⟩
theorem so_of (h : S1 X W ρ st Φ) : S1O X W ρ st Φ := ⟨h⟩
/-- one of a display of short texts -/
def shortT (n : Nat) : T → Bool
  | .d (.str z) => decide (z.length ≤ n)
  | _ => false
def shortE (n : Nat) : List Expr → Bool
  | [] => true
  | .Constant (.str z) _ _ :: es => decide (z.length ≤ n) && shortE n es
  | _ => false
theorem star_str {es : List Expr} {env : Env} {z : Str} {kk : Nat} {p : Pos} : starEach (.Constant (.str z) kk p :: es) env = (false, eval (.Constant (.str z) kk p) env) :: starEach es env := rfl
theorem ea_short : ∀ es : List Expr, shortE n es = true → ∃ ts, EA X ρ es ts ∧ ts.length = es.length ∧ ts.all (shortT n) = true
  | [], _ => ⟨[], ea_nil, rfl, rfl⟩
  | e :: es, h => by
    unfold shortE at h
    split at h
    · contradiction
    · rename_i z kk p es' he
      cases he
      obtain ⟨h1, h2⟩ := Bool.and_eq_true_iff.mp h
      obtain ⟨ts, q1, q2, q3⟩ := ea_short es h2
      refine ⟨.d (.str z) :: ts, ea_cons e_str q1 star_str, by rw [List.length_cons, List.length_cons, q2], ?_⟩
      rw [List.all_cons, q3, Bool.and_true]
      exact h1
    · cases h
theorem es_pick {es : List Expr} {i : Int} {lpos : Pos} (l : Nat) (hb : E X ρ b (.tm (.d (.int i)))) (h0 : 0 ≤ i) (h1 : i < (l : Int)) (hl : es.length = l) (h9 : l ≤ 1000) (he : shortE n es = true) (hs : PlainIx b) : ES X ρ (.Subscript (.List es lpos) b pos) n := by
  obtain ⟨ts, q1, q2, q3⟩ := ea_short (X := X) (ρ := ρ) es he
  have h3 : i.toNat < ts.length := by omega
  have h4 := List.all_eq_true.mp q3 _ (List.getElem_mem h3)
  have h5 : atI ts i = some ts[i.toNat] := atI_get' (n := i.toNat) (List.getElem?_eq_getElem h3) (by omega)
  refine ⟨er_mono (er_of (e_ixML (e_lst q1 (by rw [sizeLine_eq]; omega)) hb h5 hs)) fun t q => ?_⟩
  subst q
  revert h4
  generalize ts[i.toNat] = t
  intro h4
  unfold shortT at h4
  split at h4
  · rename_i z
    exact ⟨z, of_decide_eq_true h4, rfl⟩
  · cases h4
theorem so_setPick (i : Nat) {es : List Expr} {q : Int} {nm : Str} {pos' lpos spos : Pos} (l : Nat) (hb : E X ρ b (.tm (.d (.int q)))) (h0 : 0 ≤ q) (h1 : q < (l : Int)) (h : ∀ z : Str, z.length ≤ 10 → Φ.nx (ρ.set i (some (.d (.str z))))) (hl : es.length = l := by rfl) (h9 : l ≤ 1000 := by decide) (he : shortE 10 es = true := by decide +kernel) (hp : PlainIx b := by exact fun _ _ => rfl) (hρ : Nat.ble (i + 1) ρ.length = true := by rfl) (hi : X.N[i]? = some nm := by rfl) (hN : X.N.Nodup := by assumption) (hx : Loc X.env.scope nm := by first | exact Or.inl rfl | exact Or.inr rfl)
    (hf : X.fn nm = true ∨ X.env.scope.names.lookup nm = some .local := by first | exact .inl rfl | exact .inr rfl | assumption) : S1O X W ρ (.Assign [.Name nm pos'] (.Subscript (.List es lpos) b pos) spos) Φ :=
  so_setS i (es_pick l hb h0 h1 hl h9 he hp) h hρ hi hN hx rfl hf
theorem e_rep13 {xs : List D} {i : Int} (ha : E X ρ a (.tm (.d (.lst xs)))) (hb : E X ρ b (.tm (.d (.int i)))) (h0 : 0 ≤ i) (h1 : i ≤ 1000) (hl : xs.length ≤ 1000) : E X ρ (.BinOp a .Mult b pos) (.tm (.lst ((List.replicate i.toNat xs).flatten.map T.d))) :=
  e_op op_rep ha hb fun c τ σ H v u s Q q => by
    obtain rfl := s.vint
    obtain ⟨G, fs, ft, C, L, M⟩ := s.pop
    cases M with
    | @tm _ _ _ f3 f4 h3 h4 =>
    obtain ⟨q3, z3⟩ := h3.is_d
    obtain ⟨ar, vs, e1, e2, e3⟩ := q3.is_lst
    have hz : vs.length * i.toNat ≤ sizeLine := by
      rw [e3.len, sizeLine_eq]
      have : xs.length * i.toNat ≤ 1000 * 1000 := Nat.mul_le_mul hl (by omega)
      omega
    refine ⟨ar, i, vs, e1, rfl, C.sub _ _ e2, by omega, by omega, hz, fun l hl' => q _ _ ?_⟩
    subst z3
    exact StA.new (vs := (List.replicate i.toNat vs).flatten) (ts := (List.replicate i.toNat xs).flatten.map T.d) ⟨G, fs, [], f4, by simpa using C, L, Owns.of_ds (e3.rep i.toNat), h4⟩ hl' fun G fa _ w => ⟨fa, .refl _, .lst upd_same w⟩
end
def spSign : Spec where
  α := List Int
  enc := fun ns => [.scr ns]
  pre := fun ns => ns.length ≤ 63
  post := fun _ t => ∃ z : Str, z.length ≤ 1 ∧ t = .d (.str z)
def spSpoilt13 : Spec where
  α := List Int × List Int × Int
  enc := fun x => [.scr x.1, dIs x.2.1, .int x.2.2]
  pre := fun x => x.1.length ≤ 63 ∧ okLn x.2.1 x.2.2
  post := fun _ t => ∃ z : Str, z.length ≤ 1000 ∧ t = .d (.str z)
section
variable {P : Program} {w : World} {K : PySem.W.Frag} {mg : Str → Option Value} {base : Heap} {f : Addr} {fd : FuncData}
theorem kn_sign (F : Fun K "_law_sign_by" "_law_sign_by" W.s__law_sign_by f fd) (hm : mg "_law_sign_by" = some (.ref f)) (hb : Binds K fd ["script"] []) (B : Bt mg) (F1 : Kn P w K mg base "_law_drawn" 1 spDrawn) : Kn P w K mg base "_law_sign_by" 2 spSign := by
  refine kn_of F hm hb W.sc__law_sign_by (fun _ _ => rfl) ?_
  rintro cdv A outer s H E W0 Y (ns : List Int) hl
  have hl : ns.length ≤ 63 := hl
  have nd := Y.nd
  show S _ W0 [some (.d (.scr ns)), none] _ _
  refine s_mid (fun ρ => ∃ z : Str, z.length ≤ 100 ∧ ρ = [some (.d (.scr ns)), some (.d (.str z))]) (s_set 1 e_str ⟨_, by decide +kernel, rfl⟩) ?_
  rintro ρ ⟨z1, hz1, rfl⟩
  refine s_mid (fun ρ => ∃ z : Str, z.length ≤ 200 ∧ 1 ≤ z.length ∧ ρ = [some (.d (.scr ns)), some (.d (.str z))]) (s_setR 1 (P := fun t => ∃ z : Str, z.length ≤ 200 ∧ 1 ≤ z.length ∧ t = .d (.str z)) (fun c τ σ H s Q q => (e_addS (e_var 1) e_str (Nat.le_trans (Nat.add_le_add hz1 (show _ ≤ 100 by decide +kernel)) (by rw [sizeLine_eq]; decide))) c τ σ H s Q (q _ ⟨_, ?_, ?_, rfl⟩)) (fun t ht => ?_)) ?_
  · rw [Str.length_append]
    exact Nat.le_trans (Nat.add_le_add hz1 (show _ ≤ 100 by decide +kernel)) (by decide)
  · rw [Str.length_append]
    exact Nat.le_trans (show 1 ≤ _ by decide +kernel) (Nat.le_add_left _ _)
  · obtain ⟨z, h1, h2, rfl⟩ := ht
    exact ⟨z, h1, h2, rfl⟩
  rintro ρ ⟨z2, h1, h2, rfl⟩
  refine s_mid (fun ρ => ∃ z : Str, z.length ≤ 200 ∧ 1 ≤ z.length ∧ ρ = [some (.d (.scr ns)), some (.d (.str z))]) (s_if (t_cmp (c_eqI (e_drawn F1 Y.room hl (e_var 0) e_int e_int (by decide) (by decide) (by decide)) e_int)) (fun h => s_one (s_set 1 e_str ⟨_, by decide +kernel, by decide +kernel, rfl⟩)) (fun h => s_nil ⟨z2, h1, h2, rfl⟩)) ?_
  rintro ρ ⟨z, h1, h2, rfl⟩
  have hz : z.length ≤ sizeLine := by rw [sizeLine_eq]; omega
  have a1 := drawn_lo (ns := ns) (k := 102) (many := (z.length : Int)) (by omega)
  have a2 := drawn_hi (ns := ns) (k := 102) (many := (z.length : Int)) (by omega)
  have a3 : (drawn ns 102 (z.length : Int)).toNat < z.cps.toList.length := by rw [← len_cps]; omega
  refine s_one (s_ret (e_ix (e_var 1) (e_drawn F1 Y.room hl (e_var 0) e_int (e_lenS B.len (e_var 1) hz) (by omega) (by decide) (by decide)) (.X (c0 := z.cps.toList[(drawn ns 102 (z.length : Int)).toNat]) hz (atI_get' (n := (drawn ns 102 (z.length : Int)).toNat) (List.getElem?_eq_getElem a3) (by omega)))) ⟨_, ?_, rfl⟩)
  exact Nat.le_refl 1
end
end DL
namespace DL
open PySem PySem.Spec PyProof.Rows L2
section
variable {P : Program} {w : World} {K : PySem.W.Frag} {mg : Str → Option Value} {base : Heap} {f : Addr} {fd : FuncData}
theorem kn_spoilt13 (F : Fun K "_law_spoilt" "_law_spoilt" W.s__law_spoilt f fd) (hm : mg "_law_spoilt" = some (.ref f)) (hb : Binds K fd ["script", "runs", "gap"] []) (B : Bt mg) (F1 : Kn P w K mg base "_law_drawn" 1 spDrawn) (F2 : Kn P w K mg base "_law_sign_by" 2 spSign) : Kn P w K mg base "_law_spoilt" 3 spSpoilt13 := by
  refine kn_of F hm hb W.sc__law_spoilt (fun _ _ => rfl) ?_
  rintro cdv A outer s H E W0 Y ⟨ns, runs, gap⟩ ⟨hl, ok⟩
  have hl : ns.length ≤ 63 := hl
  have ok : okLn runs gap := ok
  have nd := Y.nd
  have R1 : Room 1 _ := Y.room.mono (by decide)
  have o1 := ok.1
  have o2 := ok.2.1
  have o3 := ok.2.2.1
  have o4 := ok.2.2.2.1
  have dl : ("-" : Str).length = 1 := by decide +kernel
  have hg : (nS gap).length ≤ 10 := by have := (nS_facts o3 (by omega)).2.1; omega
  have lg : gap.natAbs.log2 < 1920 := by
    have h2 : gap.natAbs.log2 ≤ gap.natAbs := Nat.log2_le_self _
    omega
  show S _ W0 [some (.d (.scr ns)), some (.d (dIs runs)), some (.d (.int gap)), none, none, none, none, none, none, none] _ _
  refine SO.run ?_
  refine so_mid (fun ρ => ρ = [some (.d (.scr ns)), some (.d (dIs runs)), some (.d (.int gap)), some (.lst (((runs.map nS).map D.str).map T.d)), none, none, none, none, none, none])
    (so_of (s_lc 3 9 Y (xs := runs) (enc := D.int) (f := fun r => T.d (.str (nS r))) (i_list (e_var 1)) rfl (fun s H C cl fp r hr => e_strI B.str (e_var 9) ?_) ?_ (by omega))) ?_
  · have := okLn_run ok hr
    have h2 : r.natAbs.log2 ≤ r.natAbs := Nat.log2_le_self _
    omega
  · rw [List.map_map, List.map_map]
    rfl
  rintro ρ rfl
  have wl : (runs.map nS).length ≤ 5 := by rw [List.length_map]; exact o2
  have wm : ∀ y ∈ runs.map nS, y.length ≤ 10 := fun y hy => by
    obtain ⟨r, hr, rfl⟩ := List.mem_map.mp hy
    have := okLn_run ok hr
    have := (nS_facts this.1 this.2).2.1
    omega
  generalize runs.map nS = ws at wl wm
  refine so_fz 3 _ rfl ?_
  rw [show (T.lst ((ws.map D.str).map T.d)).toD = .lst (ws.map D.str) from by rw [T.toD, T.toDs_d]]
  refine so_mid (fun ρ => ∃ sh : Str, sh.length ≤ 400 ∧ ρ = [some (.d (.scr ns)), some (.d (dIs runs)), some (.d (.int gap)), some (.d (.lst (ws.map D.str))), some (.d (.str sh)), none, none, none, none, none])
    (so_setS 4 (es_line (ys := ws) (e_var 3) rfl isDL.d dl (by omega) wm (by decide +kernel) (es_of (e_strI B.str (e_var 2) lg) hg)) fun z hz => ⟨z, Nat.le_trans hz (by decide), rfl⟩) ?_
  rintro ρ ⟨sh, hsh, rfl⟩
  have hsz : sh.length ≤ sizeLine := by rw [sizeLine_eq]; omega
  refine so_mid (fun ρ => ∃ mode : Int, ρ = [some (.d (.scr ns)), some (.d (dIs runs)), some (.d (.int gap)), some (.d (.lst (ws.map D.str))), some (.d (.str sh)), some (.d (.int mode)), none, none, none, none])
    (so_of (s_set 5 (e_drawn F1 R1 hl (e_var 0) e_int e_int (by decide) (by decide) (by decide)) ⟨_, rfl⟩)) ?_
  rintro ρ ⟨mode, rfl⟩
  refine so_mid (fun ρ => ∃ at0 : Int, ρ = [some (.d (.scr ns)), some (.d (dIs runs)), some (.d (.int gap)), some (.d (.lst (ws.map D.str))), some (.d (.str sh)), some (.d (.int mode)), some (.d (.int at0)), none, none, none])
    (so_of (s_set 6 (e_drawn F1 R1 hl (e_var 0) e_int (e_add (e_lenS B.len (e_var 4) hsz) e_int) (by omega) (by decide) (by decide)) ⟨_, rfl⟩)) ?_
  rintro ρ ⟨at0, rfl⟩
  refine so_mid (fun ρ => ∃ k : Int, ρ = [some (.d (.scr ns)), some (.d (dIs runs)), some (.d (.int gap)), some (.d (.lst (ws.map D.str))), some (.d (.str sh)), some (.d (.int mode)), some (.d (.int at0)), some (.d (.int k)), none, none])
    (so_of (s_set 7 (e_drawn F1 R1 hl (e_var 0) e_int (e_add (e_len (n := ws.length) B.len (e_var 3) rfl (by show some (ws.map D.str).length = _; rw [List.length_map])) e_int) (by omega) (by decide) (by decide)) ⟨_, rfl⟩)) ?_
  rintro ρ ⟨k, rfl⟩
  have d0 := drawn_lo (ns := ns) (k := 106) (many := 12) (by decide)
  have d1 := drawn_hi (ns := ns) (k := 106) (many := 12) (by decide)
  refine so_mid (fun ρ => ∃ odd : Str, odd.length ≤ 10 ∧ ρ = [some (.d (.scr ns)), some (.d (dIs runs)), some (.d (.int gap)), some (.d (.lst (ws.map D.str))), some (.d (.str sh)), some (.d (.int mode)), some (.d (.int at0)), some (.d (.int k)), some (.d (.str odd)), none])
    (so_setPick 8 12 (e_drawn F1 R1 hl (e_var 0) e_int e_int (by decide) (by decide) (by decide)) d0 (by omega) fun z hz => ⟨z, hz, rfl⟩) ?_
  rintro ρ ⟨odd, ol, rfl⟩
  have parts : ∀ {h : Option Int}, (cutS sh none h).length ≤ 400 := fun {h} => Nat.le_trans (cutS_length sh none h) hsh
  have parts2 : ∀ {h : Option Int}, (cutS sh h none).length ≤ 400 := fun {h} => Nat.le_trans (cutS_length sh h none) hsh
  obtain ⟨u1, q1, l1, m1⟩ := cutD_map D.str ws none (some k)
  obtain ⟨u2, q2, l2, m2⟩ := cutD_map D.str ws (some k) none
  obtain ⟨u3, q3, l3, m3⟩ := cutD_map D.str ws (some (k + 1)) none
  -- mode 0
  refine so_mid (fun ρ => ρ = [some (.d (.scr ns)), some (.d (dIs runs)), some (.d (.int gap)), some (.d (.lst (ws.map D.str))), some (.d (.str sh)), some (.d (.int mode)), some (.d (.int at0)), some (.d (.int k)), some (.d (.str odd)), none])
    (so_if (t_cmp (c_eqI (e_var 5) e_int)) (fun h => so_one (so_retS (es_add (es_add (es_of (e_sliceS (l := none) (h := some at0) (e_var 4) hsz trivial (e_var 6)) parts) (es_er (n := 1) (er_call F2 Y.room (ear_of (ea_cons (e_var 0) ea_nil)) fun ts e => ⟨ns, e, hl, fun t ht => ht, fun _ h => h⟩)) rfl (by decide)) (es_of (e_sliceS (l := some at0) (h := none) (e_var 4) hsz (e_var 6) trivial) parts2) rfl (by decide)) (fun z hz => ⟨z, Nat.le_trans hz (by decide), rfl⟩))) (fun h => so_nil rfl)) ?_
  rintro ρ rfl
  -- mode 1
  refine so_mid (fun ρ => ρ = [some (.d (.scr ns)), some (.d (dIs runs)), some (.d (.int gap)), some (.d (.lst (ws.map D.str))), some (.d (.str sh)), some (.d (.int mode)), some (.d (.int at0)), some (.d (.int k)), some (.d (.str odd)), none])
    (so_if (t_cmp (c_eqI (e_var 5) e_int)) (fun h => so_one (so_retS (es_add (es_of (e_sliceS (l := none) (h := some at0) (e_var 4) hsz trivial (e_var 6)) parts) (es_of (e_sliceS (l := some (at0 + 1)) (h := none) (e_var 4) hsz (e_add (e_var 6) e_int) trivial) parts2) rfl (by decide)) (fun z hz => ⟨z, Nat.le_trans hz (by decide), rfl⟩))) (fun h => so_nil rfl)) ?_
  rintro ρ rfl
  -- mode 2
  refine so_mid (fun ρ => ρ = [some (.d (.scr ns)), some (.d (dIs runs)), some (.d (.int gap)), some (.d (.lst (ws.map D.str))), some (.d (.str sh)), some (.d (.int mode)), some (.d (.int at0)), some (.d (.int k)), some (.d (.str odd)), none])
    (so_if (t_cmp (c_eqI (e_var 5) e_int)) (fun h => so_one (so_retS (es_add (es_add (es_of (e_sliceS (l := none) (h := some at0) (e_var 4) hsz trivial (e_var 6)) parts) (es_er (n := 1) (er_call F2 Y.room (ear_of (ea_cons (e_var 0) ea_nil)) fun ts e => ⟨ns, e, hl, fun t ht => ht, fun _ h => h⟩)) rfl (by decide)) (es_of (e_sliceS (l := some (at0 + 1)) (h := none) (e_var 4) hsz (e_add (e_var 6) e_int) trivial) parts2) rfl (by decide)) (fun z hz => ⟨z, Nat.le_trans hz (by decide), rfl⟩))) (fun h => so_nil rfl)) ?_
  rintro ρ rfl
  -- mode 3
  refine so_mid (fun ρ => ρ = [some (.d (.scr ns)), some (.d (dIs runs)), some (.d (.int gap)), some (.d (.lst (ws.map D.str))), some (.d (.str sh)), some (.d (.int mode)), some (.d (.int at0)), some (.d (.int k)), some (.d (.str odd)), none])
    (so_if (t_cmp (c_eqI (e_var 5) e_int)) (fun h => so_one (so_retS (es_line (ys := (u1 ++ [odd]) ++ u2) (e_as (e_cat (xs := (u1 ++ [odd]).map D.str) (ys := u2.map D.str) (e_fzL (e_as (e_cat (xs := u1.map D.str) (ys := [odd].map D.str) (e_fzL (e_as (e_slice (l := none) (h := some k) (e_var 3) rfl isDL.d trivial (e_var 7)) (by rw [q1]))) (e_fzL (ds := [odd].map D.str) (e_lst (ea_cons (e_var 8) ea_nil))) ?_) (by rw [← List.map_append]))) (e_fzL (e_as (e_slice (l := some k) (h := none) (e_var 3) rfl isDL.d (e_var 7) trivial) (by rw [q2]))) ?_) (by rw [← List.map_append])) rfl isDL.l dl ?_ ?_ (by decide +kernel) (es_of (e_strI B.str (e_var 2) lg) hg)) (fun z hz => ⟨z, Nat.le_trans hz (by decide), rfl⟩))) (fun h => so_nil rfl)) ?_
  · rw [List.length_map, List.length_map, sizeLine_eq]
    show u1.length + 1 ≤ _
    omega
  · rw [List.length_map, List.length_map, List.length_append, sizeLine_eq]
    show u1.length + 1 + _ ≤ _
    omega
  · rw [List.length_append, List.length_append]
    show u1.length + 1 + _ ≤ _
    omega
  · intro y hy
    rcases List.mem_append.mp hy with hy | hy
    · rcases List.mem_append.mp hy with hy | hy
      · exact wm y (m1 y hy)
      · rw [List.mem_singleton.mp hy]; exact ol
    · exact wm y (m2 y hy)
  rintro ρ rfl
  -- mode 4
  refine so_mid (fun ρ => ρ = [some (.d (.scr ns)), some (.d (dIs runs)), some (.d (.int gap)), some (.d (.lst (ws.map D.str))), some (.d (.str sh)), some (.d (.int mode)), some (.d (.int at0)), some (.d (.int k)), some (.d (.str odd)), none])
    (so_if (t_cmp (c_eqI (e_var 5) e_int)) (fun h => so_one (so_retS (es_line (ys := (u1 ++ [odd]) ++ u3) (e_as (e_cat (xs := (u1 ++ [odd]).map D.str) (ys := u3.map D.str) (e_fzL (e_as (e_cat (xs := u1.map D.str) (ys := [odd].map D.str) (e_fzL (e_as (e_slice (l := none) (h := some k) (e_var 3) rfl isDL.d trivial (e_var 7)) (by rw [q1]))) (e_fzL (ds := [odd].map D.str) (e_lst (ea_cons (e_var 8) ea_nil))) ?_) (by rw [← List.map_append]))) (e_fzL (e_as (e_slice (l := some (k + 1)) (h := none) (e_var 3) rfl isDL.d (e_add (e_var 7) e_int) trivial) (by rw [q3]))) ?_) (by rw [← List.map_append])) rfl isDL.l dl ?_ ?_ (by decide +kernel) (es_of (e_strI B.str (e_var 2) lg) hg)) (fun z hz => ⟨z, Nat.le_trans hz (by decide), rfl⟩))) (fun h => so_nil rfl)) ?_
  · rw [List.length_map, List.length_map, sizeLine_eq]
    show u1.length + 1 ≤ _
    omega
  · rw [List.length_map, List.length_map, List.length_append, sizeLine_eq]
    show u1.length + 1 + _ ≤ _
    omega
  · rw [List.length_append, List.length_append]
    show u1.length + 1 + _ ≤ _
    omega
  · intro y hy
    rcases List.mem_append.mp hy with hy | hy
    · rcases List.mem_append.mp hy with hy | hy
      · exact wm y (m1 y hy)
      · rw [List.mem_singleton.mp hy]; exact ol
    · exact wm y (m3 y hy)
  rintro ρ rfl
  have e0 := drawn_lo (ns := ns) (k := 107) (many := 10) (by decide)
  have e1 := drawn_hi (ns := ns) (k := 107) (many := 10) (by decide)
  -- mode 5
  refine so_mid (fun ρ => ρ = [some (.d (.scr ns)), some (.d (dIs runs)), some (.d (.int gap)), some (.d (.lst (ws.map D.str))), some (.d (.str sh)), some (.d (.int mode)), some (.d (.int at0)), some (.d (.int k)), some (.d (.str odd)), none])
    (so_if (t_cmp (c_eqI (e_var 5) e_int)) (fun h => so_mid (fun ρ => ∃ odd : Str, odd.length ≤ 10 ∧ ρ = [some (.d (.scr ns)), some (.d (dIs runs)), some (.d (.int gap)), some (.d (.lst (ws.map D.str))), some (.d (.str sh)), some (.d (.int mode)), some (.d (.int at0)), some (.d (.int k)), some (.d (.str odd)), none]) (so_setPick 8 10 (e_drawn F1 R1 hl (e_var 0) e_int e_int (by decide) (by decide) (by decide)) e0 (by omega) fun z hz => ⟨z, hz, rfl⟩) (fun ρ ⟨od2, ol2, hρ⟩ => by subst hρ; exact so_one (so_retS (es_line (ys := ws) (e_var 3) rfl isDL.d dl (by omega) wm (by decide +kernel) (es_of (e_var 8) ol2)) (fun z hz => ⟨z, Nat.le_trans hz (by decide), rfl⟩)))) (fun h => so_nil rfl)) ?_
  rintro ρ rfl
  have f0 := drawn_lo (ns := ns) (k := 108) (many := 3) (by decide)
  have f1 := drawn_hi (ns := ns) (k := 108) (many := 3) (by decide)
  -- mode 6
  refine so_mid (fun ρ => ρ = [some (.d (.scr ns)), some (.d (dIs runs)), some (.d (.int gap)), some (.d (.lst (ws.map D.str))), some (.d (.str sh)), some (.d (.int mode)), some (.d (.int at0)), some (.d (.int k)), some (.d (.str odd)), none])
    (so_if (t_cmp (c_eqI (e_var 5) e_int)) (fun h => so_one (so_retS (es_line (ys := ws ++ List.replicate (1 + drawn ns 108 3).toNat ("4" : Str)) (e_as (e_cat (xs := ws.map D.str) (ys := (List.replicate (1 + drawn ns 108 3).toNat ("4" : Str)).map D.str) (e_var 3) (e_fzL (e_as (e_rep13 (xs := [.str "4"]) (e_fzL (ds := [.str "4"]) (e_lst (ea_cons e_str ea_nil))) (e_add e_int (e_drawn F1 R1 hl (e_var 0) e_int e_int (by decide) (by decide) (by decide))) (by omega) (by omega) (by decide)) (by rw [rep_strs]))) ?_) (by rw [← List.map_append])) rfl isDL.l dl ?_ ?_ (by decide +kernel) (es_of (e_strI B.str (e_var 2) lg) hg)) (fun z hz => ⟨z, Nat.le_trans hz (by decide), rfl⟩))) (fun h => so_nil rfl)) ?_
  · rw [List.length_map, List.length_map, List.length_replicate, sizeLine_eq]
    omega
  · rw [List.length_append, List.length_replicate]
    omega
  · intro y hy
    rcases List.mem_append.mp hy with hy | hy
    · exact wm y hy
    · rw [(List.mem_replicate.mp hy).2]
      decide +kernel
  rintro ρ rfl
  exact so_one (so_retS (es_of (e_var 4) hsh) (fun z hz => ⟨z, Nat.le_trans hz (by decide), rfl⟩))
end
end DL
namespace DL
open PySem PySem.Spec PyProof.Rows L2
def spWhole : Spec where
  α := Int
  enc := fun x => [.int x]
  pre := fun _ => True
  post := fun x t => t = .d (.bl true)
def spRow : Spec where
  α := List Int × List Int
  enc := fun x => [dIs x.1, dIs x.2]
  pre := fun x => x.2.length ≤ 1000000
  post := fun x t => t = .d (.bl (decide (x.1 = x.2)))
section
variable {P : Program} {w : World} {K : PySem.W.Frag} {mg : Str → Option Value} {base : Heap} {f : Addr} {fd : FuncData}
theorem kn_whole (F : Fun K "_law_whole" "_law_whole" W.s__law_whole f fd) (hm : mg "_law_whole" = some (.ref f)) (hb : Binds K fd ["found"] []) (B : Bt mg) : Kn P w K mg base "_law_whole" 1 spWhole := by
  refine kn_of F hm hb W.sc__law_whole (fun _ _ => rfl) ?_
  rintro cdv A outer s H E W0 Y i -
  have nd := Y.nd
  show S _ W0 [some (.d (.int i))] _ _
  exact s_one (s_ret (e_and (e_isi B.isinstance B.int (e_var 0) rfl rfl (kit_ty (r := true) (by decide +kernel)) rfl) fun _ => e_one (e_not (e_isi B.isinstance B.bool (e_var 0) rfl rfl (kit_ty (r := false) (by decide +kernel)) rfl))) rfl)
theorem kn_row (F : Fun K "_law_row" "_law_row" W.s__law_row f fd) (hm : mg "_law_row" = some (.ref f)) (hb : Binds K fd ["found", "due"] []) (B : Bt mg) (F1 : Kn P w K mg base "_law_whole" 1 spWhole) : Kn P w K mg base "_law_row" 2 spRow := by
  refine kn_of F hm hb W.sc__law_row (fun _ _ => rfl) ?_
  rintro cdv A outer s H E W0 Y ⟨a, b⟩ hlen
  have hlen : b.length ≤ 1000000 := hlen
  have nd := Y.nd
  show S _ W0 [some (.d (dIs a)), some (.d (dIs b)), none] _ _
  refine s_mid (fun ρ => ρ = [some (.d (dIs a)), some (.d (dIs b)), none] ∧ a.length = b.length) (s_if (t_w (w_or (t_not (t_val (e_isi B.isinstance B.list (e_var 0) rfl rfl (kit_ty (r := true) (by decide +kernel)) rfl))) fun h => w_or1 (t_cmp (c_neI (e_len B.len (e_var 0)) (e_len B.len (e_var 1)))))) (fun h => s_one (s_ret e_bl ?_)) (fun h => s_nil ⟨rfl, ?_⟩)) ?_
  · show (T.d (.bl false) : T) = .d (.bl (decide (a = b)))
    have h2 : ¬ a = b := fun z => by subst z; simp at h
    rw [decide_eq_false h2]
  · simp at h
    omega
  rintro ρ' ⟨rfl, hl⟩
  refine s_mid (fun ρ => (∃ y, ρ = [some (.d (dIs a)), some (.d (dIs b)), y]) ∧ a = b) (s_for (xs := List.range b.length) (enc := encN) 2 Y (i_range1 (by exact e_len B.len (e_var 1) rfl (by show some (b.map D.int).length = _; rw [List.length_map])) B.range (by omega)) (fun i ρ => (∃ y, ρ = [some (.d (dIs a)), some (.d (dIs b)), y]) ∧ a.take i = b.take i) ⟨⟨_, rfl⟩, rfl⟩ (fun i ρ h => by obtain ⟨⟨y, rfl⟩, _⟩ := h; show 2 < 3; decide) (fun i k ρ hk h => ?_) fun ρ h => ⟨h.1, ?_⟩) ?_
  · obtain ⟨⟨y, rfl⟩, ht⟩ := h
    obtain ⟨hi, rfl⟩ := range_at hk
    obtain ⟨x, hx⟩ : ∃ x, a[k]? = some x := ⟨_, List.getElem?_eq_getElem (by omega)⟩
    obtain ⟨z, hz⟩ : ∃ z, b[k]? = some z := ⟨_, List.getElem?_eq_getElem (by omega)⟩
    refine s_one (s_if (t_w (w_or (t_not (t_val (e_call F1 Y.room (ea_cons (e_ix (e_var 0) (e_var 2) (.L (atI_map hx))) ea_nil) x rfl trivial (fun _ h => h) fun _ h => h))) fun h => w_or1 (t_cmp (c_neI (e_ix (e_var 0) (e_var 2) (.L (atI_map hx))) (e_ix (e_var 1) (e_var 2) (.L (atI_map hz))))))) (fun h => s_one (s_ret e_bl ?_)) (fun h => s_nil ⟨⟨_, rfl⟩, ?_⟩))
    · show (T.d (.bl false) : T) = .d (.bl (decide (a = b)))
      have h2 : ¬ a = b := fun q => by subst q; rw [hx] at hz; cases hz; simp at h
      rw [decide_eq_false h2]
    · have e : x = z := by simpa using h
      subst e
      exact take_ext ht hx hz
  · have h2 := h.2
    rw [List.length_range, List.take_of_length_le (by omega), List.take_of_length_le (by omega)] at h2
    exact h2
  · rintro ρ' ⟨⟨y, rfl⟩, e⟩
    refine s_one (s_ret e_bl ?_)
    show (T.d (.bl true) : T) = .d (.bl (decide (a = b)))
    rw [decide_eq_true e]
end
end DL
namespace W
open PySem PySem.Spec PyProof.Rows L2 DL
def fn : List He.DefD := [dD ("Line", some "__init__") "__init__" "Line.__init__" s_Line_init, dD ("Line", some "runs") "runs" "Line.runs" s_Line_runs, dD ("Line", some "clear") "clear" "Line.clear" s_Line_clear, dD ("number_of", none) "number_of" "number_of" s_number_of, dD ("read", none) "read" "read" s_read, dD ("_law_drawn", none) "_law_drawn" "_law_drawn" s__law_drawn, dD ("_law_whole", none) "_law_whole" "_law_whole" s__law_whole, dD ("_law_row", none) "_law_row" "_law_row" s__law_row, dD ("_law_line_by", none) "_law_line_by" "_law_line_by" s__law_line_by, dD ("_law_number", none) "_law_number" "_law_number" s__law_number, dD ("_law_due", none) "_law_due" "_law_due" s__law_due, dD ("_law_sign_by", none) "_law_sign_by" "_law_sign_by" s__law_sign_by, dD ("_law_spoilt", none) "_law_spoilt" "_law_spoilt" s__law_spoilt, dD ("law", none) "law" "law" s_law]
def fa0 : List He.Fa := [.glo "number_of", .glo "read", .glo "_law_drawn", .glo "_law_whole", .glo "_law_row", .glo "_law_line_by", .glo "_law_number", .glo "_law_due", .glo "_law_sign_by", .glo "_law_spoilt", .glo "law", .free "len", .free "range", .free "list", .free "min", .free "max", .free "sorted", .free "isinstance", .free "int", .free "bool", .free "abs", .free "str", .free "set", .free "tuple", .free "reversed", .free "enumerate", .free "ValueError", .int "MOST_STRETCHES" 5, .int "MOST_RUN" 20, .int "MOST_CLEAR" 5]
def fa1 : List He.Fa := [.str "FIGURES" "0123456789", .glo "Line", .cls "Line", .noat "Line" "minutes", .noat "Line" "gap", .meth "Line" "runs", .meth "Line" "clear", .mkr "Line", .glo "HaltError", .glo "BadLine", .exc "BadLine", .glo "BadTable", .exc "BadTable", .glo "BadText", .exc "BadText"]
def fa : List He.Fa := fa0 ++ fa1
def fx : List Fx := [.exc "BadLine", .he "BadLine" "HaltError", .kitB "BadLine" "ValueError" true, .exc "BadTable", .he "BadTable" "HaltError", .kitB "BadTable" "ValueError" true, .exc "BadText", .he "BadText" "HaltError", .kitB "BadText" "ValueError" true, .kit "BadText" "BadText" true, .kit "BadText" "BadLine" false, .kit "BadText" "BadTable" false, .he "BadLine" "BadLine"]
abbrev RR : PySem.W.OpenRow := PySem.W.OpenLaw.row PySem.Challenge.rw_haltline_k13_texts_refused
abbrev hk : PySem.W.Hook := hookY 5 fa fn fx
def ob (s : PySem.W.SharedT) : He.AlD × Bool := obsY 5 fa fn fx (HandSHeadRun.getT s)
theorem ob_eq (s : PySem.W.SharedT) : ob s = hk.obs s.abs := obsY_eq (HandSHeadRun.getT_eq s)
def loose0 : List Str := ["HaltError", "BadLine", "BadTable", "BadText", "MOST_STRETCHES", "MOST_RUN", "MOST_CLEAR", "Line", "FIGURES", "number_of", "read", "_law_drawn", "_law_whole", "_law_row", "_law_rows", "_law_line_by", "_law_trains_by", "_law_way", "_law_users", "_law_number"]
def loose1 : List Str := ["_law_due", "_law_sign_by", "_law_spoilt"]
abbrev loose : List Str := loose0 ++ loose1
theorem run (w : World) : HandSHeadRun.RunEq RR (PySem.W.view RR.prog [27]) hk ob 8000 loose w := by
  intro os
  kernel_rfl
structure Facts (K : PySem.W.Frag) (mg : Str → Option Value) : Prop where
  g_number_of : mg "number_of" = some (.ref (He.ga K "number_of"))
  g_read : mg "read" = some (.ref (He.ga K "read"))
  g__law_drawn : mg "_law_drawn" = some (.ref (He.ga K "_law_drawn"))
  g__law_whole : mg "_law_whole" = some (.ref (He.ga K "_law_whole"))
  g__law_row : mg "_law_row" = some (.ref (He.ga K "_law_row"))
  g__law_line_by : mg "_law_line_by" = some (.ref (He.ga K "_law_line_by"))
  g__law_number : mg "_law_number" = some (.ref (He.ga K "_law_number"))
  g__law_due : mg "_law_due" = some (.ref (He.ga K "_law_due"))
  g__law_sign_by : mg "_law_sign_by" = some (.ref (He.ga K "_law_sign_by"))
  g__law_spoilt : mg "_law_spoilt" = some (.ref (He.ga K "_law_spoilt"))
  g_law : mg "law" = some (.ref (He.ga K "law"))
  g_Line : mg "Line" = some (.ref (He.ga K "Line"))
  g_HaltError : mg "HaltError" = some (.ref (He.ga K "HaltError"))
  g_BadLine : mg "BadLine" = some (.ref (He.ga K "BadLine"))
  g_BadTable : mg "BadTable" = some (.ref (He.ga K "BadTable"))
  g_BadText : mg "BadText" = some (.ref (He.ga K "BadText"))
  bt : Bt mg
  f_ValueError : mg "ValueError" = none
  i_MOST_STRETCHES : IntG mg "MOST_STRETCHES" 5
  i_MOST_RUN : IntG mg "MOST_RUN" 20
  i_MOST_CLEAR : IntG mg "MOST_CLEAR" 5
  s_FIGURES : StrG mg "FIGURES" "0123456789"
  ln : LnF K mg
  m_runs : Meth K (cLn K) "runs" (He.ma K (cLn K) "runs")
  m_clear : Meth K (cLn K) "clear" (He.ma K (cLn K) "clear")
  mkL : Mk K (cLn K) (He.ma K (cLn K) "__init__")
  x_BadLine : ExF K mg "BadLine"
  xn_BadLine : ExN K "BadLine"
  x_BadTable : ExF K mg "BadTable"
  xn_BadTable : ExN K "BadTable"
  x_BadText : ExF K mg "BadText"
  xn_BadText : ExN K "BadText"
  k_BadText_BadText : KitE K "BadText" "BadText" true
  k_BadText_BadLine : KitE K "BadText" "BadLine" false
  k_BadText_BadTable : KitE K "BadText" "BadTable" false
  h_BadLine_BadLine : PySem.W.exmOne K (.ref (He.ga K "BadLine")) (.ref (He.ga K "BadLine")) = some true
  fun_Line_init : ∃ fd, Fun K "__init__" "Line.__init__" s_Line_init (He.fAd K ("Line", some "__init__")) fd ∧ Binds K fd ["self", "runs", "clear"] []
  fun_Line_runs : ∃ fd, Fun K "runs" "Line.runs" s_Line_runs (He.fAd K ("Line", some "runs")) fd ∧ Binds K fd ["self"] []
  fun_Line_clear : ∃ fd, Fun K "clear" "Line.clear" s_Line_clear (He.fAd K ("Line", some "clear")) fd ∧ Binds K fd ["self"] []
  fun_number_of : ∃ fd, Fun K "number_of" "number_of" s_number_of (He.fAd K ("number_of", none)) fd ∧ Binds K fd ["word"] []
  fun_read : ∃ fd, Fun K "read" "read" s_read (He.fAd K ("read", none)) fd ∧ Binds K fd ["text"] []
  fun__law_drawn : ∃ fd, Fun K "_law_drawn" "_law_drawn" s__law_drawn (He.fAd K ("_law_drawn", none)) fd ∧ Binds K fd ["script", "k", "many"] []
  fun__law_whole : ∃ fd, Fun K "_law_whole" "_law_whole" s__law_whole (He.fAd K ("_law_whole", none)) fd ∧ Binds K fd ["found"] []
  fun__law_row : ∃ fd, Fun K "_law_row" "_law_row" s__law_row (He.fAd K ("_law_row", none)) fd ∧ Binds K fd ["found", "due"] []
  fun__law_line_by : ∃ fd, Fun K "_law_line_by" "_law_line_by" s__law_line_by (He.fAd K ("_law_line_by", none)) fd ∧ Binds K fd ["script", "base"] []
  fun__law_number : ∃ fd, Fun K "_law_number" "_law_number" s__law_number (He.fAd K ("_law_number", none)) fd ∧ Binds K fd ["word"] []
  fun__law_due : ∃ fd, Fun K "_law_due" "_law_due" s__law_due (He.fAd K ("_law_due", none)) fd ∧ Binds K fd ["signs"] []
  fun__law_sign_by : ∃ fd, Fun K "_law_sign_by" "_law_sign_by" s__law_sign_by (He.fAd K ("_law_sign_by", none)) fd ∧ Binds K fd ["script"] []
  fun__law_spoilt : ∃ fd, Fun K "_law_spoilt" "_law_spoilt" s__law_spoilt (He.fAd K ("_law_spoilt", none)) fd ∧ Binds K fd ["script", "runs", "gap"] []
  fun_law : ∃ fd, Fun K "law" "law" s_law (He.fAd K ("law", none)) fd ∧ Binds K fd ["script"] []
theorem facts {K : PySem.W.Frag} {h : Heap} {mg : Str → Option Value} (X : K.In h) (G : h.Ns mainGlobals mg) (c : SaysY fa fn fx K) : Facts K mg where
  g_number_of := He.glo_ok X G (c.fact 0 (f := .glo "number_of"))
  g_read := He.glo_ok X G (c.fact 1 (f := .glo "read"))
  g__law_drawn := He.glo_ok X G (c.fact 2 (f := .glo "_law_drawn"))
  g__law_whole := He.glo_ok X G (c.fact 3 (f := .glo "_law_whole"))
  g__law_row := He.glo_ok X G (c.fact 4 (f := .glo "_law_row"))
  g__law_line_by := He.glo_ok X G (c.fact 5 (f := .glo "_law_line_by"))
  g__law_number := He.glo_ok X G (c.fact 6 (f := .glo "_law_number"))
  g__law_due := He.glo_ok X G (c.fact 7 (f := .glo "_law_due"))
  g__law_sign_by := He.glo_ok X G (c.fact 8 (f := .glo "_law_sign_by"))
  g__law_spoilt := He.glo_ok X G (c.fact 9 (f := .glo "_law_spoilt"))
  g_law := He.glo_ok X G (c.fact 10 (f := .glo "law"))
  g_Line := He.glo_ok X G (c.fact 31 (f := .glo "Line"))
  g_HaltError := He.glo_ok X G (c.fact 38 (f := .glo "HaltError"))
  g_BadLine := He.glo_ok X G (c.fact 39 (f := .glo "BadLine"))
  g_BadTable := He.glo_ok X G (c.fact 41 (f := .glo "BadTable"))
  g_BadText := He.glo_ok X G (c.fact 43 (f := .glo "BadText"))
  bt := ⟨He.free_ok X G (c.fact 11 (f := .free "len")), He.free_ok X G (c.fact 12 (f := .free "range")), He.free_ok X G (c.fact 13 (f := .free "list")), He.free_ok X G (c.fact 14 (f := .free "min")), He.free_ok X G (c.fact 15 (f := .free "max")), He.free_ok X G (c.fact 16 (f := .free "sorted")), He.free_ok X G (c.fact 17 (f := .free "isinstance")), He.free_ok X G (c.fact 18 (f := .free "int")), He.free_ok X G (c.fact 19 (f := .free "bool")), He.free_ok X G (c.fact 20 (f := .free "abs")), He.free_ok X G (c.fact 21 (f := .free "str")), He.free_ok X G (c.fact 22 (f := .free "set")), He.free_ok X G (c.fact 23 (f := .free "tuple")), He.free_ok X G (c.fact 24 (f := .free "reversed")), He.free_ok X G (c.fact 25 (f := .free "enumerate"))⟩
  f_ValueError := He.free_ok X G (c.fact 26 (f := .free "ValueError"))
  i_MOST_STRETCHES := He.int_ok X G (c.fact 27 (f := .int "MOST_STRETCHES" 5))
  i_MOST_RUN := He.int_ok X G (c.fact 28 (f := .int "MOST_RUN" 20))
  i_MOST_CLEAR := He.int_ok X G (c.fact 29 (f := .int "MOST_CLEAR" 5))
  s_FIGURES := He.str_ok X G (c.fact 30 (f := .str "FIGURES" "0123456789"))
  ln := ⟨He.glo_ok X G (c.fact 31 (f := .glo "Line")), He.cls_ok (c.fact 32 (f := .cls "Line")), He.noat_ok (c.fact 33 (f := .noat "Line" "minutes")), He.noat_ok (c.fact 34 (f := .noat "Line" "gap"))⟩
  m_runs := He.meth_ok (c.fact 35 (f := .meth "Line" "runs"))
  m_clear := He.meth_ok (c.fact 36 (f := .meth "Line" "clear"))
  mkL := He.mkr_ok (c.fact 37 (f := .mkr "Line"))
  x_BadLine := let z := He.exc_ok (c.fact 40 (f := .exc "BadLine")); ⟨He.glo_ok X G (c.fact 39 (f := .glo "BadLine")), z.1, z.2.1, z.2.2.1, z.2.2.2⟩
  xn_BadLine := ⟨excCB_ok (c.xf 0 (f := .exc "BadLine")), of_decide_eq_true (c.xf 1 (f := .he "BadLine" "HaltError")), of_decide_eq_true (c.xf 2 (f := .kitB "BadLine" "ValueError" true))⟩
  x_BadTable := let z := He.exc_ok (c.fact 42 (f := .exc "BadTable")); ⟨He.glo_ok X G (c.fact 41 (f := .glo "BadTable")), z.1, z.2.1, z.2.2.1, z.2.2.2⟩
  xn_BadTable := ⟨excCB_ok (c.xf 3 (f := .exc "BadTable")), of_decide_eq_true (c.xf 4 (f := .he "BadTable" "HaltError")), of_decide_eq_true (c.xf 5 (f := .kitB "BadTable" "ValueError" true))⟩
  x_BadText := let z := He.exc_ok (c.fact 44 (f := .exc "BadText")); ⟨He.glo_ok X G (c.fact 43 (f := .glo "BadText")), z.1, z.2.1, z.2.2.1, z.2.2.2⟩
  xn_BadText := ⟨excCB_ok (c.xf 6 (f := .exc "BadText")), of_decide_eq_true (c.xf 7 (f := .he "BadText" "HaltError")), of_decide_eq_true (c.xf 8 (f := .kitB "BadText" "ValueError" true))⟩
  k_BadText_BadText := of_decide_eq_true (c.xf 9 (f := .kit "BadText" "BadText" true))
  k_BadText_BadLine := of_decide_eq_true (c.xf 10 (f := .kit "BadText" "BadLine" false))
  k_BadText_BadTable := of_decide_eq_true (c.xf 11 (f := .kit "BadText" "BadTable" false))
  h_BadLine_BadLine := of_decide_eq_true (c.xf 12 (f := .he "BadLine" "BadLine"))
  fun_Line_init := let ⟨fd, F⟩ := c.fun_ 0 (p := ("Line", some "__init__")) (x := "__init__") (qual := "Line.__init__") (st := s_Line_init); ⟨fd, F, F.binds fun _ _ _ _ _ _ us hl => match us, hl with | [_, _, _], _ => rfl⟩
  fun_Line_runs := let ⟨fd, F⟩ := c.fun_ 1 (p := ("Line", some "runs")) (x := "runs") (qual := "Line.runs") (st := s_Line_runs); ⟨fd, F, F.binds fun _ _ _ _ _ _ us hl => match us, hl with | [_], _ => rfl⟩
  fun_Line_clear := let ⟨fd, F⟩ := c.fun_ 2 (p := ("Line", some "clear")) (x := "clear") (qual := "Line.clear") (st := s_Line_clear); ⟨fd, F, F.binds fun _ _ _ _ _ _ us hl => match us, hl with | [_], _ => rfl⟩
  fun_number_of := let ⟨fd, F⟩ := c.fun_ 3 (p := ("number_of", none)) (x := "number_of") (qual := "number_of") (st := s_number_of); ⟨fd, F, F.binds fun _ _ _ _ _ _ us hl => match us, hl with | [_], _ => rfl⟩
  fun_read := let ⟨fd, F⟩ := c.fun_ 4 (p := ("read", none)) (x := "read") (qual := "read") (st := s_read); ⟨fd, F, F.binds fun _ _ _ _ _ _ us hl => match us, hl with | [_], _ => rfl⟩
  fun__law_drawn := let ⟨fd, F⟩ := c.fun_ 5 (p := ("_law_drawn", none)) (x := "_law_drawn") (qual := "_law_drawn") (st := s__law_drawn); ⟨fd, F, F.binds fun _ _ _ _ _ _ us hl => match us, hl with | [_, _, _], _ => rfl⟩
  fun__law_whole := let ⟨fd, F⟩ := c.fun_ 6 (p := ("_law_whole", none)) (x := "_law_whole") (qual := "_law_whole") (st := s__law_whole); ⟨fd, F, F.binds fun _ _ _ _ _ _ us hl => match us, hl with | [_], _ => rfl⟩
  fun__law_row := let ⟨fd, F⟩ := c.fun_ 7 (p := ("_law_row", none)) (x := "_law_row") (qual := "_law_row") (st := s__law_row); ⟨fd, F, F.binds fun _ _ _ _ _ _ us hl => match us, hl with | [_, _], _ => rfl⟩
  fun__law_line_by := let ⟨fd, F⟩ := c.fun_ 8 (p := ("_law_line_by", none)) (x := "_law_line_by") (qual := "_law_line_by") (st := s__law_line_by); ⟨fd, F, F.binds fun _ _ _ _ _ _ us hl => match us, hl with | [_, _], _ => rfl⟩
  fun__law_number := let ⟨fd, F⟩ := c.fun_ 9 (p := ("_law_number", none)) (x := "_law_number") (qual := "_law_number") (st := s__law_number); ⟨fd, F, F.binds fun _ _ _ _ _ _ us hl => match us, hl with | [_], _ => rfl⟩
  fun__law_due := let ⟨fd, F⟩ := c.fun_ 10 (p := ("_law_due", none)) (x := "_law_due") (qual := "_law_due") (st := s__law_due); ⟨fd, F, F.binds fun _ _ _ _ _ _ us hl => match us, hl with | [_], _ => rfl⟩
  fun__law_sign_by := let ⟨fd, F⟩ := c.fun_ 11 (p := ("_law_sign_by", none)) (x := "_law_sign_by") (qual := "_law_sign_by") (st := s__law_sign_by); ⟨fd, F, F.binds fun _ _ _ _ _ _ us hl => match us, hl with | [_], _ => rfl⟩
  fun__law_spoilt := let ⟨fd, F⟩ := c.fun_ 12 (p := ("_law_spoilt", none)) (x := "_law_spoilt") (qual := "_law_spoilt") (st := s__law_spoilt); ⟨fd, F, F.binds fun _ _ _ _ _ _ us hl => match us, hl with | [_, _, _], _ => rfl⟩
  fun_law := let ⟨fd, F⟩ := c.fun_ 13 (p := ("law", none)) (x := "law") (qual := "law") (st := s_law); ⟨fd, F, F.binds fun _ _ _ _ _ _ us hl => match us, hl with | [_], _ => rfl⟩
theorem law_binds {K : PySem.W.Frag} {f : Addr} {fd : FuncData} (F : Fun K "law" "law" s_law f fd) (s : Shared) (u : Value) : BindsTo s fd ⟨[u], []⟩ [("script", u)] := by
  obtain ⟨oc, od, kV, doc, pm, an, cdv, ct, osl, rfl, lk, hcd⟩ := F.ex
  exact .of_eq rfl
end W
namespace DL
open PySem PySem.Spec PyProof.Rows L2
theorem pick2 {a b i : Int} (h : 0 ≤ i) (h2 : i < 2) : ∃ v : Int, (v = a ∨ v = b) ∧ atI [T.d (.int a), .d (.int b)] i = some (.d (.int v)) := by
  have : i = 0 ∨ i = 1 := by omega
  rcases this with rfl | rfl
  · exact ⟨a, .inl rfl, rfl⟩
  · exact ⟨b, .inr rfl, rfl⟩
theorem pick3' {a b c i : Int} (h : 0 ≤ i) (h2 : i < 3) : ∃ v : Int, (v = a ∨ v = b ∨ v = c) ∧ atI [T.d (.int a), .d (.int b), .d (.int c)] i = some (.d (.int v)) := by
  have : i = 0 ∨ i = 1 ∨ i = 2 := by omega
  rcases this with rfl | rfl | rfl
  · exact ⟨a, .inl rfl, rfl⟩
  · exact ⟨b, .inr (.inl rfl), rfl⟩
  · exact ⟨c, .inr (.inr rfl), rfl⟩
def spLineBy : Spec where
  α := List Int × Int
  enc := fun x => [.scr x.1, .int x.2]
  pre := fun x => x.1.length ≤ 63 ∧ 0 ≤ x.2 ∧ x.2 ≤ 1000
  post := fun x t => ∃ runs gap, okLn runs gap ∧ t = .tup [tIs runs, .d (.int gap)]
def spLawWay : Spec where
  α := Tr
  enc := fun t => [dTr t]
  pre := fun t => 0 ≤ t.1 ∧ t.1 ≤ 100 ∧ 0 ≤ t.2.1 ∧ t.2.1 ≤ 100
  post := fun t r => r = tIs (wayOf t)
def spTrainsBy : Spec where
  α := List Int × Int × Nat × Nat
  enc := fun x => [.scr x.1, .int x.2.1, .int x.2.2.1, .int x.2.2.2]
  pre := fun x => x.1.length ≤ 63 ∧ 0 ≤ x.2.1 ∧ x.2.1 ≤ 1000 ∧ 1 ≤ x.2.2.1 ∧ x.2.2.1 ≤ 5 ∧ 1 ≤ x.2.2.2 ∧ x.2.2.2 ≤ 10
  post := fun x t => ∃ ts : List Tr, 1 ≤ ts.length ∧ ts.length ≤ x.2.2.2 ∧ (∀ q ∈ ts, okTr x.2.2.1 q) ∧ t = .d (dTrs ts)
theorem goal_ne {st a d : Int} (h0 : 1 ≤ st) (h1 : 0 ≤ a) (h2 : a ≤ st) (h3 : 0 ≤ d) (h4 : d < st) : a ≠ (a + 1 + d) % (st + 1) ∧ 0 ≤ (a + 1 + d) % (st + 1) ∧ (a + 1 + d) % (st + 1) ≤ st := by
  have e1 : 0 ≤ (a + 1 + d) % (st + 1) := Int.emod_nonneg _ (by omega)
  have e2 : (a + 1 + d) % (st + 1) < st + 1 := Int.emod_lt_of_pos _ (by omega)
  refine ⟨?_, e1, by omega⟩
  by_cases h : a + 1 + d < st + 1
  · rw [Int.emod_eq_of_lt (by omega) h]; omega
  · have e : (a + 1 + d) % (st + 1) = a + 1 + d - (st + 1) := by
      rw [← Int.sub_emod_right, Int.emod_eq_of_lt (by omega) (by omega)]
    rw [e]; omega
section
variable {P : Program} {w : World} {K : PySem.W.Frag} {mg : Str → Option Value} {base : Heap} {f : Addr} {fd : FuncData}
theorem kn_line_by (F : Fun K "_law_line_by" "_law_line_by" W.s__law_line_by f fd) (hm : mg "_law_line_by" = some (.ref f)) (hb : Binds K fd ["script", "base"] []) (B : Bt mg) (F1 : Kn P w K mg base "_law_drawn" 1 spDrawn) : Kn P w K mg base "_law_line_by" 2 spLineBy := by
  refine kn_of F hm hb W.sc__law_line_by (fun _ _ => rfl) ?_
  rintro cdv A outer s H E W0 Y ⟨ns, b⟩ ⟨hl, b1, b2⟩
  have hl : ns.length ≤ 63 := hl
  have b1 : 0 ≤ b := b1
  have b2 : b ≤ 1000 := b2
  have nd := Y.nd
  show S _ W0 [some (.d (.scr ns)), some (.d (.int b)), none, none, none] _ _
  have m1 := drawn_lo (ns := ns) (k := b) (many := 5) (by decide)
  have m2 := drawn_hi (ns := ns) (k := b) (many := 5) (by decide)
  obtain ⟨v, hv0, hv⟩ := pick2 (a := 4) (b := 20) (drawn_lo (ns := ns) (k := b + 1) (many := 2) (by decide)) (drawn_hi (by decide))
  refine s_cons (s_set 2 (e_add e_int (e_drawn F1 Y.room hl (e_var 0) (e_var 1) e_int (by decide) (by omega) (by omega))) ?_)
  refine s_mid (fun ρ => ∃ runs : List Int, okLn runs 0 ∧ ρ = [some (.d (.scr ns)), some (.d (.int b)), some (.d (.int (1 + drawn ns b 5))), some (tIs runs), none])
    (s_lc 3 4 Y (xs := List.range (1 + drawn ns b 5).toNat) (enc := encN) (i_range1 (e_as (e_var 2) (congrArg (fun z => R.tm (.d (.int z))) (Int.toNat_of_nonneg (by omega)).symm)) B.range (by omega)) rfl
      (fun s H C cl fp x hx => e_add e_int (e_drawn (k := b + 2 + (x : Int)) (m := v) F1 Y.room hl (e_var 0) (e_add (e_add (e_var 1) e_int) (e_var 4)) (e_ixML (e_lst (ea_cons e_int (ea_cons e_int ea_nil))) (e_drawn F1 Y.room hl (e_var 0) (e_add (e_var 1) e_int) e_int (by decide) (by omega) (by omega)) hv) (by omega) (by omega) (by have := List.mem_range.mp hx; omega))) ⟨(List.range (1 + drawn ns b 5).toNat).map fun k : Nat => 1 + drawn ns (b + 2 + (k : Int)) v, ?_, by rw [← tIs_range]; rfl⟩ (by rw [List.length_range]; omega)) ?_
  · refine ⟨by rw [List.length_map, List.length_range]; omega, by rw [List.length_map, List.length_range]; omega, by decide, by decide, fun r hr => ?_⟩
    obtain ⟨k, _, rfl⟩ := List.mem_map.mp hr
    have h1 := drawn_lo (ns := ns) (k := b + 2 + (k : Int)) (many := v) (by omega)
    have h2 := drawn_hi (ns := ns) (k := b + 2 + (k : Int)) (many := v) (by omega)
    omega
  rintro ρ ⟨runs, ok, rfl⟩
  refine s_one (s_retMv 3 (e_varP 3) (e_drawn F1 Y.room hl (e_var 0) (e_add (e_var 1) e_int) e_int (by decide) (by omega) (by omega)) rfl ⟨runs, _, ⟨ok.1, ok.2.1, ?_, ?_, ok.2.2.2.2⟩, rfl⟩)
  · exact drawn_lo (by decide)
  · have := drawn_hi (ns := ns) (k := b + 8) (many := 6) (by decide); omega
theorem kn_law_way (F : Fun K "_law_way" "_law_way" W.s__law_way f fd) (hm : mg "_law_way" = some (.ref f)) (hb : Binds K fd ["train"] []) (B : Bt mg) : Kn P w K mg base "_law_way" 1 spLawWay := by
  refine kn_of F hm hb W.sc__law_way (fun _ _ => rfl) ?_
  rintro cdv A outer s H E W0 Y t ⟨b1, b2, b3, b4⟩
  have nd := Y.nd
  show S _ W0 [some (.d (dTr t)), none] _ _
  refine s_mid (fun ρ => ρ = [some (.d (dTr t)), none] ∧ ¬ t.1 < t.2.1) (s_if (t_cmp (c_lt (e_ix (e_var 0) e_int (.T rfl)) (e_ix (e_var 0) e_int (.T rfl)))) (fun h => ?_) (fun h => s_nil ⟨rfl, by simpa using h⟩)) ?_
  · refine s_one (s_ret (e_lc 1 Y (i_range2 (e_ix (e_var 0) e_int (.T rfl)) (e_ix (e_var 0) e_int (.T rfl)) B.range (by omega) (by omega) (by omega) (by omega) rfl) rfl (fun s H C cl fp x hx => e_var 1) (by rw [List.length_range]; omega)) ?_)
    have h' : t.1 < t.2.1 := by simpa using h
    show T.lst _ = tIs (wayOf t)
    unfold wayOf
    rw [if_pos h', ← tIs_range]
    rfl
  · rintro ρ' ⟨rfl, h⟩
    refine s_one (s_ret (e_revL (ds := (List.range (t.1 - t.2.1).toNat).map (encI t.2.1)) (e_lc 1 Y (i_range2 (e_ix (e_var 0) e_int (.T rfl)) (e_ix (e_var 0) e_int (.T rfl)) B.range (by omega) (by omega) (by omega) (by omega) rfl) rfl (fun s H C cl fp x hx => e_var 1) (by rw [List.length_range]; omega)) rfl (.inr (by rw [List.map_map]; rfl))) ?_)
    show T.lst _ = tIs (wayOf t)
    unfold wayOf
    rw [if_neg h]
    have e := congrArg (fun l : List Int => (l.map D.int)) (rev_range t.2.1 (t.1 - t.2.1).toNat)
    simp only [List.map_reverse, List.map_map] at e
    unfold tIs
    rw [show (List.range (t.1 - t.2.1).toNat).map (encI t.2.1) = (List.range (t.1 - t.2.1).toNat).map (D.int ∘ fun k : Nat => t.2.1 + (k : Int)) from rfl, e, List.map_map, List.map_map, List.map_map]
    congr 1
    refine List.map_congr_left fun k hk => ?_
    show T.d (.int (t.2.1 + ((t.1 - t.2.1).toNat : Int) - 1 - (k : Int))) = T.d (.int (t.1 - 1 - (k : Int)))
    congr 2
    have := List.mem_range.mp hk
    omega
theorem kn_trains_by (F : Fun K "_law_trains_by" "_law_trains_by" W.s__law_trains_by f fd) (hm : mg "_law_trains_by" = some (.ref f)) (hb : Binds K fd ["script", "base", "stretches", "most"] []) (B : Bt mg) (F1 : Kn P w K mg base "_law_drawn" 1 spDrawn) : Kn P w K mg base "_law_trains_by" 2 spTrainsBy := by
  refine kn_of F hm hb W.sc__law_trains_by (fun _ _ => rfl) ?_
  rintro cdv A outer s H E W0 Y ⟨ns, b, st, mo⟩ ⟨hl, b1, b2, s1, s2, q1, q2⟩
  have hl : ns.length ≤ 63 := hl
  have b1 : 0 ≤ b := b1
  have b2 : b ≤ 1000 := b2
  have s1 : 1 ≤ st := s1
  have s2 : st ≤ 5 := s2
  have q1 : 1 ≤ mo := q1
  have q2 : mo ≤ 10 := q2
  have nd := Y.nd
  have m1 := drawn_lo (ns := ns) (k := b) (many := mo) (by omega)
  have m2 := drawn_hi (ns := ns) (k := b) (many := mo) (by omega)
  show S _ W0 [some (.d (.scr ns)), some (.d (.int b)), some (.d (.int st)), some (.d (.int mo)), none, none, none, none] _ _
  refine s_cons (s_set 4 (e_lst ea_nil) ?_)
  refine s_mid (fun ρ => ∃ ts : List Tr, 1 ≤ ts.length ∧ ts.length ≤ mo ∧ (∀ q ∈ ts, okTr st q) ∧ ∃ y5 y6 y7, ρ = [some (.d (.scr ns)), some (.d (.int b)), some (.d (.int st)), some (.d (.int mo)), some (.lst (ts.map fun q => T.d (dTr q))), y5, y6, y7])
    (s_for (xs := List.range (1 + drawn ns b mo).toNat) (enc := encN) 5 Y (i_range1 (e_as (e_add e_int (e_drawn F1 Y.room hl (e_var 0) (e_var 1) (e_var 3) (by omega) (by omega) (by omega))) (congrArg (fun z => R.tm (.d (.int z))) (Int.toNat_of_nonneg (by omega)).symm)) B.range (by omega))
      (fun i ρ => ∃ ts : List Tr, ts.length = i ∧ (∀ q ∈ ts, okTr st q) ∧ ∃ y5 y6 y7, ρ = [some (.d (.scr ns)), some (.d (.int b)), some (.d (.int st)), some (.d (.int mo)), some (.lst (ts.map fun q => T.d (dTr q))), y5, y6, y7])
      ⟨[], rfl, fun q hq => (nomatch hq), _, _, _, rfl⟩ (fun i ρ h => by obtain ⟨_, _, _, _, _, _, rfl⟩ := h; show 5 < 8; decide) (fun i k ρ hk h => ?_) fun ρ h => ?_) ?_
  rotate_left
  · obtain ⟨ts, h1, h2, h3⟩ := h
    rw [List.length_range] at h1
    exact ⟨ts, by omega, by omega, h2, h3⟩
  · rintro ρ ⟨ts, h1, h2, h3, y5, y6, y7, rfl⟩
    refine s_fz 4 _ rfl (s_one (s_ret (e_var 4) ⟨ts, h1, h2, h3, ?_⟩))
    show T.d (.lst (T.toDs _)) = _
    rw [show (ts.map fun q => T.d (dTr q)) = (ts.map dTr).map T.d from by rw [List.map_map]; rfl, T.toDs_d]
    rfl
  obtain ⟨ts, hts, hall, y5, y6, y7, rfl⟩ := h
  obtain ⟨hk, rfl⟩ := range_at hk
  have hk : (k : Int) < 10 := by omega
  have d1 := drawn_lo (ns := ns) (k := b + 1 + 5 * (k : Int)) (many := (st : Int) + 1) (by omega)
  have d2 := drawn_hi (ns := ns) (k := b + 1 + 5 * (k : Int)) (many := (st : Int) + 1) (by omega)
  have d3 := drawn_lo (ns := ns) (k := b + 2 + 5 * (k : Int)) (many := (st : Int)) (by omega)
  have d4 := drawn_hi (ns := ns) (k := b + 2 + 5 * (k : Int)) (many := (st : Int)) (by omega)
  refine s_cons (s_set 6 (e_drawn (k := b + 1 + 5 * (k : Int)) F1 Y.room hl (e_var 0) (e_add (e_add (e_var 1) e_int) (e_mul e_int (e_var 5) (.inl ⟨by decide, by decide⟩))) (e_add (e_var 2) e_int) (by omega) (by omega) (by omega)) ?_)
  refine s_cons (s_set 7 (e_mod (e_add (e_add (e_var 6) e_int) (e_drawn (k := b + 2 + 5 * (k : Int)) F1 Y.room hl (e_var 0) (e_add (e_add (e_var 1) e_int) (e_mul e_int (e_var 5) (.inl ⟨by decide, by decide⟩))) (e_var 2) (by omega) (by omega) (by omega))) (e_add (e_var 2) e_int) (by omega)) ?_)
  generalize drawn ns (b + 1 + 5 * (k : Int)) ((st : Int) + 1) = a0 at *
  generalize drawn ns (b + 2 + 5 * (k : Int)) (st : Int) = a1 at *
  obtain ⟨g1, g2, g3⟩ := goal_ne (st := (st : Int)) (by omega) d1 (by omega) d3 d4
  refine s_mid (fun ρ => ∃ a g : Int, a ≠ g ∧ 0 ≤ a ∧ a ≤ st ∧ 0 ≤ g ∧ g ≤ st ∧ ρ = [some (.d (.scr ns)), some (.d (.int b)), some (.d (.int st)), some (.d (.int mo)), some (.lst (ts.map fun q => T.d (dTr q))), some (.d (encN k)), some (.d (.int a)), some (.d (.int g))])
    (s_if (t_cmp (c_eqI (e_drawn (k := b + 3 + 5 * (k : Int)) F1 Y.room hl (e_var 0) (e_add (e_add (e_var 1) e_int) (e_mul e_int (e_var 5) (.inl ⟨by decide, by decide⟩))) e_int (by decide) (by omega) (by omega)) e_int)) (fun h => ?_) (fun h => s_nil ⟨_, _, g1, d1, by omega, g2, g3, rfl⟩)) ?_
  · have e1 := drawn_lo (ns := ns) (k := b + 4 + 5 * (k : Int)) (many := 2) (by decide)
    have e2 := drawn_hi (ns := ns) (k := b + 4 + 5 * (k : Int)) (many := 2) (by decide)
    refine s_cons (s_set 6 (e_mul (e_drawn (k := b + 4 + 5 * (k : Int)) F1 Y.room hl (e_var 0) (e_add (e_add (e_var 1) e_int) (e_mul e_int (e_var 5) (.inl ⟨by decide, by decide⟩))) e_int (by decide) (by omega) (by omega)) (e_var 2) (.inl ⟨by omega, by omega⟩)) ?_)
    refine s_one (s_set 7 (e_sub (e_var 2) (e_var 6)) ⟨_, _, ?_, ?_, ?_, ?_, ?_, rfl⟩)
    all_goals
      have : drawn ns (b + 4 + 5 * (k : Int)) 2 = 0 ∨ drawn ns (b + 4 + 5 * (k : Int)) 2 = 1 := by omega
      rcases this with e | e <;> rw [e] <;> omega
  rintro ρ ⟨a, g, z1, z2, z3, z4, z5, rfl⟩
  obtain ⟨v, hv0, hv⟩ := pick3' (a := 1) (b := 9) (c := 61) (drawn_lo (ns := ns) (k := b + 40) (many := 3) (by decide)) (drawn_hi (by decide))
  have f1 := drawn_lo (ns := ns) (k := b + 5 + 5 * (k : Int)) (many := v) (by omega)
  have f2 := drawn_hi (ns := ns) (k := b + 5 + 5 * (k : Int)) (many := v) (by omega)
  refine s_one (s_append 4 (e_varP 4) (e_fz (e_tup (ea_cons (e_var 6) (ea_cons (e_var 7) (ea_cons (e_drawn (k := b + 5 + 5 * (k : Int)) (m := v) F1 Y.room hl (e_var 0) (e_add (e_add (e_var 1) e_int) (e_mul e_int (e_var 5) (.inl ⟨by decide, by decide⟩))) (e_ixML (e_lst (ea_cons e_int (ea_cons e_int (ea_cons e_int ea_nil)))) (e_drawn F1 Y.room hl (e_var 0) (e_add (e_var 1) e_int) e_int (by decide) (by omega) (by omega)) hv) (by omega) (by omega) (by omega)) ea_nil))))) rfl (by rw [List.length_map, hts, sizeLine_eq]; omega)
    ⟨ts ++ [(a, g, drawn ns (b + 5 + 5 * (k : Int)) v)], by rw [List.length_append, hts]; rfl, fun q hq => ?_, _, _, _, by rw [List.map_append]; rfl⟩)
  rcases List.mem_append.mp hq with hq | hq
  · exact hall q hq
  · have e : q = (a, g, drawn ns (b + 5 + 5 * (k : Int)) v) := by simpa using hq
    subst e
    exact ⟨z1, z2, z3, z4, z5, f1, by show drawn ns (b + 5 + 5 * (k : Int)) v ≤ 60; omega⟩
end
end DL
namespace W
open PySem PySem.Spec PyProof.Rows L2 DL
def bL4 (a b c d : Bool) : T := .lst [.d (.bl a), .d (.bl b), .d (.bl c), .d (.bl d)]
theorem ok_bL4 (a b c d : Bool) : (bL4 a b c d).toD.ok 1 := by
  show ∀ q ∈ [D.bl a, .bl b, .bl c, .bl d], D.ok 0 q
  intro q hq
  simp only [List.mem_cons, List.mem_nil_iff, or_false] at hq
  rcases hq with rfl | rfl | rfl | rfl <;> trivial
theorem eqv_self13 {d : D} {n : Nat} (h : d.ok n) : PyData.eqv d.py d.py = true := PySem.SeqAt.eqv_refl _ (D.ok_lay d n h).1
section
variable {P : Program} {w : World} {K : PySem.W.Frag} {mg : Str → Option Value} {base : Heap} {f : Addr} {fd : FuncData}
theorem ok_law (Z : Facts K mg) (F : Fun K "law" "law" s_law f fd) : FnOk P w K mg base (L2.CX P w) 4 f fd ["script"] (SpD K spLaw) := by
  obtain ⟨_, F0, b0⟩ := Z.fun_Line_init
  have ZL : KLn P w K mg base := ⟨Z.ln, _, _, Z.mkL, ok_init F0 Z.bt Z.ln Z.x_BadLine Z.i_MOST_STRETCHES Z.i_MOST_RUN Z.i_MOST_CLEAR, b0⟩
  have ZN : KLnN P w K mg base := ⟨_, _, Z.mkL, ok_initN F0 Z.bt Z.x_BadLine Z.i_MOST_STRETCHES Z.i_MOST_RUN Z.i_MOST_CLEAR, b0⟩
  obtain ⟨_, F1, b1⟩ := Z.fun_Line_runs
  have krn : KnM P w K mg base (cLn K) "runs" 1 (spRuns K) := ⟨_, _, _, fok_runs F1 Z.bt Z.ln, Z.m_runs, b1, Z.ln.cls⟩
  obtain ⟨_, F2, b2⟩ := Z.fun_Line_clear
  have kcl : KnM P w K mg base (cLn K) "clear" 1 (spClear K) := ⟨_, _, _, fok_clear F2 Z.ln, Z.m_clear, b2, Z.ln.cls⟩
  obtain ⟨_, F3, b3⟩ := Z.fun_number_of
  have knu := kn_numX (P := P) (w := w) (base := base) F3 Z.g_number_of b3 Z.bt Z.x_BadText Z.s_FIGURES
  obtain ⟨_, F4, b4⟩ := Z.fun_read
  have kre := kn_readX F4 Z.g_read b4 Z.bt ZL ZN Z.x_BadText Z.g_BadLine Z.h_BadLine_BadLine (exmNo Z.x_BadLine.b Z.k_BadText_BadLine) knu
  obtain ⟨_, F5, b5⟩ := Z.fun__law_drawn
  have kdr := kn_drawn (P := P) (w := w) (base := base) F5 Z.g__law_drawn b5 Z.bt
  obtain ⟨_, F6, b6⟩ := Z.fun__law_whole
  have kwh := kn_whole (P := P) (w := w) (base := base) F6 Z.g__law_whole b6 Z.bt
  obtain ⟨_, F7, b7⟩ := Z.fun__law_row
  have kro := kn_row F7 Z.g__law_row b7 Z.bt kwh
  obtain ⟨_, F8, b8⟩ := Z.fun__law_line_by
  have klb := kn_line_by F8 Z.g__law_line_by b8 Z.bt kdr
  obtain ⟨_, F9, b9⟩ := Z.fun__law_number
  have kln := kn_lawNum (P := P) (w := w) (base := base) F9 Z.g__law_number b9 Z.bt
  obtain ⟨_, FA, bA⟩ := Z.fun__law_due
  have kdu := kn_lawDue FA Z.g__law_due bA Z.bt kln
  obtain ⟨_, FB, bB⟩ := Z.fun__law_sign_by
  have ksg := kn_sign FB Z.g__law_sign_by bB Z.bt kdr
  obtain ⟨_, FC, bC⟩ := Z.fun__law_spoilt
  have ksp := kn_spoilt13 FC Z.g__law_spoilt bC Z.bt kdr ksg
  have B := Z.bt
  have x := Z.xn_BadText
  refine fok_of F sc_law (fun _ _ => rfl) ?_
  rintro cdv A outer s H E W0 Y ns hlen
  have hlen : ns.length ≤ 63 := hlen
  have nd := Y.nd
  have R1 : Room 1 _ := Y.room.mono (by decide)
  have R2 : Room 2 _ := Y.room.mono (by decide)
  show S _ W0 [some (.d (.scr ns)), none, none, none, none, none, none] _ _
  refine s_mid (fun ρ => ∃ runs gap, okLn runs gap ∧ ρ = [some (.d (.scr ns)), some (.tup [tIs runs, .d (.int gap)]), none, none, none, none, none])
    (s_call 1 Y klb R2 (ea_cons (e_var 0) (ea_cons e_int ea_nil)) (ns, 0) rfl ⟨hlen, (show (0 : Int) ≤ 0 by decide), (show (0 : Int) ≤ 1000 by decide)⟩ (by exact fun t h => by obtain ⟨runs, gap, ok, rfl⟩ := h; exact ⟨runs, gap, ok, rfl⟩) (by exact fun c h => h.elim)) ?_
  rintro ρ ⟨runs0, gap0, ok0, rfl⟩
  have eM : ∀ (r : List Int) (g : Int), (T.tup [tIs r, .d (.int g)]).toD = .tup [dIs r, .int g] := fun r g => by
    show D.tup [(tIs r).toD, .int g] = _
    rw [tIs_toD]
  refine s_fz 1 _ rfl ?_
  rw [eM]
  refine s_mid (fun ρ => ∃ z : Str, z.length ≤ 1000 ∧ ρ = [some (.d (.scr ns)), some (.d (.tup [dIs runs0, .int gap0])), some (.d (.str z)), none, none, none, none])
    (s_call 2 Y ksp Y.room (ea_cons (e_var 0) (ea_cons (e_ix (e_var 1) e_int (.T (x := dIs runs0) rfl)) (ea_cons (e_ix (e_var 1) e_int (.T (x := .int gap0) rfl)) ea_nil))) (ns, runs0, gap0) rfl ⟨hlen, ok0⟩ (by exact fun t h => by obtain ⟨z, hz, rfl⟩ := h; exact ⟨z, hz, rfl⟩) (by exact fun c h => h.elim)) ?_
  rintro ρ ⟨z, hz, rfl⟩
  refine s_mid (fun ρ => (∃ runs gap, Reads z runs gap ∧ ρ = [some (.d (.scr ns)), some (.d (.tup [dIs runs0, .int gap0])), some (.d (.str z)), some (.tup [tIs runs, .d (.int gap)]), none, none, none]) ∨ ((∀ runs gap, ¬ Reads z runs gap) ∧ ρ = [some (.d (.scr ns)), some (.d (.tup [dIs runs0, .int gap0])), some (.d (.str z)), some (.d .non), none, none, none]))
    (s_call 3 Y kdu R2 (ea_cons (e_var 2) ea_nil) z rfl hz (by exact fun t h => h.elim (fun ⟨runs, gap, h, e⟩ => .inl ⟨runs, gap, h, by rw [e]; rfl⟩) fun ⟨h, e⟩ => .inr ⟨h, by rw [e]; rfl⟩) (by exact fun c h => h.elim)) ?_
  rintro ρ (⟨runs, gap, hr, rfl⟩ | ⟨hno, rfl⟩)
  · refine s_fz 3 _ rfl ?_
    rw [eM]
    refine s_mid (fun ρ => ρ = [some (.d (.scr ns)), some (.d (.tup [dIs runs0, .int gap0])), some (.d (.str z)), some (.d (.tup [dIs runs, .int gap])), some (tLn (cLn K) runs gap), none, none])
      (s_tryAs 5 Y ⟨rfl, by decide, .inl Z.g_HaltError⟩ (Xb := fun _ _ => False) (fun W' pn xe Y' => ?_) (fun _ _ h => h.elim)) ?_
    · exact s_one (s_call 4 Y' kre Y'.room (ea_cons (e_var 2) ea_nil) z rfl hz (by exact fun t ⟨r, g, h, e⟩ => by rw [e, (h.det hr).1, (h.det hr).2]; rfl) (by exact fun c h => (h.1 _ _ hr).elim))
    rintro ρ rfl
    refine s_fz 4 _ rfl ?_
    rw [tLn_toD]
    have n5 : runs.length ≤ 5 := by
      obtain ⟨_, _, _, _, _, ok⟩ := hr
      exact ok.2.1
    refine s_one (s_ret (e_and (e_cmp (c_notN (e_var 3))) fun _ => e_and (e_call kro R2 (ea_cons (e_as (e_fz (e_runs krn R1 (e_var 4))) (by rw [tIs_toD])) (ea_cons (e_ix (e_var 3) e_int (.T (x := dIs runs) rfl)) ea_nil)) (runs, runs) rfl (by show runs.length ≤ 1000000; omega) (fun _ h => h) fun _ h => h) fun _ =>
      e_one (e_call kro R2 (ea_cons (e_fzL (ds := [.int gap]) (e_lst (ea_cons (e_clear kcl R1 (e_var 4)) ea_nil))) (ea_cons (e_fzL (ds := [.int gap]) (e_lst (ea_cons (e_ix (e_var 3) e_int (.T (x := .int gap) rfl)) ea_nil))) ea_nil)) ([gap], [gap]) rfl (by show 1 ≤ 1000000; decide) (fun _ h => h) fun _ h => h)) ?_)
    show (T.d (.bl (true && (decide (runs = runs) && decide ([gap] = [gap])))) : T) = .d (.bl true)
    rw [decide_eq_true rfl, decide_eq_true rfl]
    rfl
  · refine s_mid (fun _ => False)
      (s_tryAs 5 Y ⟨rfl, by decide, .inl Z.g_HaltError⟩ (Xb := fun cls ρ => cls = .ref (He.ga K "BadText") ∧ ρ = [some (.d (.scr ns)), some (.d (.tup [dIs runs0, .int gap0])), some (.d (.str z)), some (.d .non), none, none, none]) (fun W' pn xe Y' => ?_) (fun cls ρ' h => ?_)) (fun _ h => h.elim)
    · exact s_one (s_call 4 Y' kre Y'.room (ea_cons (e_var 2) ea_nil) z rfl hz (by exact fun t ⟨r, g, h, _⟩ => (hno r g h).elim) (by exact fun c h => ⟨h.2, rfl⟩))
    · obtain ⟨rfl, rfl⟩ := h
      refine ⟨by show 5 < 7; decide, true, x.he, fun _ a oe pn hz hf => ?_, fun h => by cases h⟩
      refine s_cons (s_set 6 (e_lst (ea_cons (e_isE B.isinstance x.c hz hf (e_var 5) (e_gref Z.g_BadText) Z.k_BadText_BadText) (ea_cons (e_isEB B.isinstance Z.f_ValueError x.c hz hf (e_var 5) x.ve rfl) (ea_cons (e_isE B.isinstance x.c hz hf (e_var 5) (e_gref Z.g_BadLine) Z.k_BadText_BadLine) (ea_cons (e_isE B.isinstance x.c hz hf (e_var 5) (e_gref Z.g_BadTable) Z.k_BadText_BadTable) ea_nil))))) ?_)
      refine s_one (s_ret (e_and (e_cmp (c_isN (e_var 3))) fun _ => e_one (e_cmp (c_eqD (n1 := 1) (n2 := 1) (t1 := bL4 true true false false) (t2 := bL4 true true false false) Y.room.units (e_varP 6) (e_lst (ea_cons e_bl (ea_cons e_bl (ea_cons e_bl (ea_cons e_bl ea_nil))))) rfl rfl (ok_bL4 _ _ _ _) (ok_bL4 _ _ _ _)))) ?_)
      show (T.d (.bl (true && PyData.eqv _ _)) : T) = .d (.bl true)
      rw [eqv_self13 (ok_bL4 _ _ _ _)]
      rfl
end
end W
open PySem PySem.W PySem.Calls PyProof.Rows
theorem PySem.Challenge.cw_haltline_k13_texts_refused_holds : PySem.Challenge.rw_haltline_k13_texts_refused.Holds := by
  w_on; o_law
  refine HandSHeadRun.head_any (r := OpenLaw.row PySem.Challenge.rw_haltline_k13_texts_refused) (q := view (OpenLaw.row PySem.Challenge.rw_haltline_k13_texts_refused).prog [27]) (H := W.hk) (ob := W.ob) (M := 8000) (loose := W.loose) (d := HandSHeadRun.topDef (OpenLaw.row PySem.Challenge.rw_haltline_k13_texts_refused).prog 27) (kwd := []) W.ob_eq
    (by kernel_rfl) (fun s => by kernel_rfl) W.run (by kernel_rfl) (by kernel_rfl) (by kernel_rfl) (by rfl) (by first | assumption | decide +kernel) (by decide +kernel) ⟨rfl, rfl, rfl, rfl, rfl, by decide +kernel⟩ ?hw ?hc
  case hw => w_witness2
  case hc =>
    refine DL.walk_law (l := PySem.Challenge.rw_haltline_k13_texts_refused) (k := 4) (x := "script") rfl (by kernel_rfl) ⟨rfl, by decide, by decide⟩ ?F
    intro w mg fa h Y G hmg0
    obtain ⟨K, KX, c⟩ := Y
    have hmg : mg ("law" : PySem.Str) = some (.ref fa) := by
      have e : (HandSHeadRun.topDef (OpenLaw.row PySem.Challenge.rw_haltline_k13_texts_refused).prog 27).name = ("law" : PySem.Str) := by kernel_rfl
      rw [← e]
      exact hmg0
    have Z := W.facts KX G c
    obtain ⟨fd, F, _⟩ := Z.fun_law
    have e : fa = He.fAd K ("law", none) := by
      have e2 := hmg.symm.trans Z.g_law
      cases e2
      rfl
    subst e
    exact ⟨K, fd, KX, W.law_binds F, fun base _ _ => W.ok_law Z F⟩
