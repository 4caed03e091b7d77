import PyProof.Rows.All
import Wide.All
import OpenK.AllK
import Wide.FinOn
import HandS.ForMost
import KE.KDictKeyed
import KE.SortData
import KE.DataMinMax
import KE.DataIsa
import KE.DatumIndex
import HandS.Wide
import HandS.TupAny
import HandS.Conv
import HandS.TupLen
import HandS.RaiseMore
import HandS.Style
import PyProof.SeqIndex
import HandS.Small
import PySem.Challenge.RW_sameanswer_k60_what_follows_from_depende
set_option Elab.async false
set_option linter.all false
set_option maxRecDepth 100000
namespace L3
open PySem PySem.Spec PyProof.Rows L2

/-! ## data in the heap -/
abbrev D := PyData
structure En where
  P : Program
  w : World
  K : PySem.W.Frag
abbrev en (X : Cx) : En := ⟨X.prog, X.w, X.K⟩
def kD : Key → D
  | .inl i => .int i
  | .inr x => .str x

/-- a dict whose keys are nested tuples, as its own object stands -/
def NdPhi (P : Program) (w : World) (a : Addr) (es : List (NestedKey × Addr × V)) : Heap → Prop := fun h =>
  (a == sysModules) = false ∧ es.length ≤ sizeLine ∧ ∃ us : List (NestedKey × Addr × Value), Paired (fun p q => p.1 = q.1 ∧ p.2.1 = q.2.1 ∧ RelV p.2.2 q.2.2) es us ∧
    ∃ o ents ep, h.get? a = some o ∧ o.ExactDict ∧ o.data = .dict ents ep ∧ ents.toList = us.map (entryOfKey (nestedKind P w)) ∧ (us.map (·.1)).Nodup
abbrev NdO (E : En) (a : Addr) (es : List (NestedKey × Addr × V)) : HO := .ext (NdPhi E.P E.w a es)

/-- a tuple, its object known, without a dict of its own -/
def TP (H : Hp) (a : Addr) (xs : List V) : Prop := ∃ o, H a = some (.frz o (.tup xs)) ∧ o.dict = none
theorem TP.mono {H H' : Hp} {a : Addr} {xs : List V} (h : TP H a xs) (k : ∀ o, H a = some o → H' a = some o) : TP H' a xs := let ⟨o, e, d⟩ := h; ⟨o, k _ e, d⟩
theorem TP.sq {K : PySem.W.Frag} {H : Hp} {a : Addr} {xs : List V} (h : TP H a xs) : SqT K H a xs := let ⟨o, e, _⟩ := h; .inl (.inr ⟨o, e⟩)
theorem TP.ne {H : Hp} {a : Addr} {xs : List V} (h : TP H a xs) : H a ≠ none := let ⟨o, e, _⟩ := h; by rw [e]; exact fun z => nomatch z

mutual
/-- v reads as d; ns: the objects that it reads -/
inductive RD (E : En) (H : Hp) : V → D → List Addr → Prop
  | non : RD E H .non .none []
  | bl (b : Bool) : RD E H (.bl b) (.bool b) []
  | int (i : Int) : RD E H (.int i) (.int i) []
  | str (x : Str) : RD E H (.str x) (.str x) []
  | lst {a : Addr} {xs : List V} {ds : List D} {ns : List Addr} : H a = some (.lst xs) → RDs E H xs ds ns → RD E H (.ref a) (.list ds) (a :: ns)
  | tup {a : Addr} {xs : List V} {ds : List D} {ns : List Addr} : TP H a xs → RDs E H xs ds ns → RD E H (.ref a) (.tuple ds) (a :: ns)
  | dicK {a : Addr} {kvs : List (Key × V)} {ds : List (D × D)} {vs : List D} {ns : List Addr} : H a = some (.dK kvs) → ds = (kvs.map fun p => kD p.1).zip vs → RDs E H (kvs.map (·.2)) vs ns → RD E H (.ref a) (.dict ds) (a :: ns)
  | dicN {a : Addr} {es : List (NestedKey × Addr × V)} {ds : List (D × D)} {vs : List D} {ns ms : List Addr} : H a = some (NdO E a es) → (∀ e ∈ es, e.1.depth ≤ 8) → ds = (es.map fun p => NestedKey.data p.1).zip vs →
      RDs E H (es.map fun p => .ref p.2.1) (es.map fun p => NestedKey.data p.1) ms → RDs E H (es.map (·.2.2)) vs ns → RD E H (.ref a) (.dict ds) (a :: (ms ++ ns))
inductive RDs (E : En) (H : Hp) : List V → List D → List Addr → Prop
  | nil : RDs E H [] [] []
  | cons {v : V} {vs : List V} {d : D} {ds : List D} {ns ms : List Addr} : RD E H v d ns → RDs E H vs ds ms → RDs E H (v :: vs) (d :: ds) (ns ++ ms)
end

theorem rd_mono {H H' : Hp} {a : Addr} {u : HO} (h : Rd H a u) (k : ∀ o, H a = some o → H' a = some o) : Rd H' a u := by
  rcases h with h | ⟨o, h⟩
  · exact .inl (k _ h)
  · exact .inr ⟨o, k _ h⟩
theorem sqL_mono {K : PySem.W.Frag} {H H' : Hp} {a : Addr} {xs : List V} (h : SqL K H a xs) (k : ∀ o, H a = some o → H' a = some o) : SqL K H' a xs := by
  rcases h with h | h
  · exact .inl (rd_mono h k)
  · exact .inr h
theorem sqT_mono {K : PySem.W.Frag} {H H' : Hp} {a : Addr} {xs : List V} (h : SqT K H a xs) (k : ∀ o, H a = some o → H' a = some o) : SqT K H' a xs := by
  rcases h with h | h
  · exact .inl (rd_mono h k)
  · exact .inr h

section
variable {E : En} {H H' : Hp}
mutual
theorem RD.mono : ∀ {v : V} {d : D} {ns : List Addr}, RD E H v d ns → (∀ a ∈ ns, ∀ o, H a = some o → H' a = some o) → RD E H' v d ns
  | _, _, _, .non, _ => .non
  | _, _, _, .bl b, _ => .bl b
  | _, _, _, .int i, _ => .int i
  | _, _, _, .str x, _ => .str x
  | _, _, _, .lst h r, k => .lst (k _ List.mem_cons_self _ h) (RDs.mono r fun a m => k a (List.mem_cons_of_mem _ m))
  | _, _, _, .tup h r, k => .tup (h.mono (k _ List.mem_cons_self)) (RDs.mono r fun a m => k a (List.mem_cons_of_mem _ m))
  | _, _, _, .dicK h e r, k => .dicK (k _ List.mem_cons_self _ h) e (RDs.mono r fun a m => k a (List.mem_cons_of_mem _ m))
  | _, _, _, .dicN h dp e r r2, k => .dicN (k _ List.mem_cons_self _ h) dp e (RDs.mono r fun a m => k a (List.mem_cons_of_mem _ (List.mem_append_left _ m))) (RDs.mono r2 fun a m => k a (List.mem_cons_of_mem _ (List.mem_append_right _ m)))
theorem RDs.mono : ∀ {vs : List V} {ds : List D} {ns : List Addr}, RDs E H vs ds ns → (∀ a ∈ ns, ∀ o, H a = some o → H' a = some o) → RDs E H' vs ds ns
  | _, _, _, .nil, _ => .nil
  | _, _, _, .cons r t, k => .cons (RD.mono r fun a m => k a (List.mem_append_left _ m)) (RDs.mono t fun a m => k a (List.mem_append_right _ m))
end

/-- frozen data: all that it reads is tracked, nothing of it is owned -/
def DR (E : En) (H : Hp) (U : Addr → Prop) (v : V) (d : D) : Prop := ∃ ns, RD E H v d ns ∧ ∀ a ∈ ns, ¬ U a ∧ H a ≠ none
inductive DRs (E : En) (H : Hp) (U : Addr → Prop) : List V → List D → Prop
  | nil : DRs E H U [] []
  | cons {v : V} {vs : List V} {d : D} {ds : List D} : DR E H U v d → DRs E H U vs ds → DRs E H U (v :: vs) (d :: ds)
variable {U U' : Addr → Prop}
theorem RDs.dr : ∀ {vs : List V} {ds : List D} {ns : List Addr}, RDs E H vs ds ns → (∀ a ∈ ns, ¬ U a ∧ H a ≠ none) → DRs E H U vs ds
  | _, _, _, .nil, _ => .nil
  | _, _, _, .cons r t, k => .cons ⟨_, r, fun a m => k a (List.mem_append_left _ m)⟩ (RDs.dr t fun a m => k a (List.mem_append_right _ m))
theorem DRs.rd : ∀ {vs : List V} {ds : List D}, DRs E H U vs ds → ∃ ns, RDs E H vs ds ns ∧ ∀ a ∈ ns, ¬ U a ∧ H a ≠ none
  | _, _, .nil => ⟨[], .nil, fun _ m => nomatch m⟩
  | _, _, .cons ⟨ns, r, k⟩ t => by
    obtain ⟨ms, r2, k2⟩ := DRs.rd t
    exact ⟨ns ++ ms, .cons r r2, fun a m => (List.mem_append.mp m).elim (k a) (k2 a)⟩
theorem DRs.length : ∀ {vs : List V} {ds : List D}, DRs E H U vs ds → vs.length = ds.length
  | _, _, .nil => rfl
  | _, _, .cons _ t => by rw [List.length_cons, List.length_cons, DRs.length t]
theorem DRs.get : ∀ {vs : List V} {ds : List D} {i : Nat} {v : V}, DRs E H U vs ds → vs[i]? = some v → ∃ d, ds[i]? = some d ∧ DR E H U v d
  | _, _, _, _, .nil, e => by simp at e
  | _, _, 0, _, .cons r _, e => by simp at e; subst e; exact ⟨_, rfl, r⟩
  | _, _, i + 1, v, .cons _ t, e => by
    obtain ⟨d, h1, h2⟩ := DRs.get (i := i) (v := v) t (by simpa using e)
    exact ⟨d, by simpa using h1, h2⟩
theorem DRs.getD : ∀ {vs : List V} {ds : List D} {i : Nat} {d : D}, DRs E H U vs ds → ds[i]? = some d → ∃ v, vs[i]? = some v ∧ DR E H U v d
  | _, _, _, _, .nil, e => by simp at e
  | _, _, 0, _, .cons r _, e => by simp at e; subst e; exact ⟨_, rfl, r⟩
  | _, _, i + 1, d, .cons _ t, e => by
    obtain ⟨v, h1, h2⟩ := DRs.getD (i := i) (d := d) t (by simpa using e)
    exact ⟨v, by simpa using h1, h2⟩
theorem DRs.append : ∀ {xs ys : List V} {ds es : List D}, DRs E H U xs ds → DRs E H U ys es → DRs E H U (xs ++ ys) (ds ++ es)
  | _, _, _, _, .nil, s => s
  | _, _, _, _, .cons r t, s => .cons r (DRs.append t s)
theorem DRs.take : ∀ {xs : List V} {ds : List D} (n : Nat), DRs E H U xs ds → DRs E H U (xs.take n) (ds.take n)
  | _, _, 0, _ => .nil
  | _, _, _ + 1, .nil => .nil
  | _, _, n + 1, .cons r t => .cons r (DRs.take n t)
theorem DRs.drop : ∀ {xs : List V} {ds : List D} (n : Nat), DRs E H U xs ds → DRs E H U (xs.drop n) (ds.drop n)
  | _, _, 0, r => r
  | _, _, _ + 1, .nil => .nil
  | _, _, n + 1, .cons _ t => DRs.drop n t
theorem DRs.set : ∀ {xs : List V} {ds : List D} {v : V} {d : D} (i : Nat), DRs E H U xs ds → DR E H U v d → DRs E H U (xs.set i v) (ds.set i d)
  | _, _, _, _, _, .nil, _ => .nil
  | _, _, _, _, 0, .cons _ t, r => .cons r t
  | _, _, _, _, i + 1, .cons q t, r => .cons q (DRs.set i t r)
theorem DRs.eraseIdx : ∀ {xs : List V} {ds : List D} (i : Nat), DRs E H U xs ds → DRs E H U (xs.eraseIdx i) (ds.eraseIdx i)
  | _, _, _, .nil => .nil
  | _, _, 0, .cons _ t => t
  | _, _, i + 1, .cons r t => .cons r (DRs.eraseIdx i t)
theorem DRs.reverse {xs : List V} {ds : List D} (h : DRs E H U xs ds) : DRs E H U xs.reverse ds.reverse := by
  induction h with
  | nil => exact .nil
  | cons r t ih =>
    rw [List.reverse_cons, List.reverse_cons]
    exact ih.append (.cons r .nil)
theorem DRs.rep {xs : List V} {ds : List D} (h : DRs E H U xs ds) : ∀ k : Nat, DRs E H U (List.replicate k xs).flatten (List.replicate k ds).flatten
  | 0 => .nil
  | k + 1 => by
    rw [List.replicate_succ, List.replicate_succ, List.flatten_cons, List.flatten_cons]
    exact h.append (DRs.rep h k)
theorem DRs.imp (f : ∀ v d, DR E H U v d → DR E H' U' v d) : ∀ {vs : List V} {ds : List D}, DRs E H U vs ds → DRs E H' U' vs ds
  | _, _, .nil => .nil
  | _, _, .cons r t => .cons (f _ _ r) (DRs.imp f t)
/-- frozen data stays while what is not owned stays -/
theorem DR.mono {v : V} {d : D} (h : DR E H U v d) (k : ∀ a o, ¬ U a → H a = some o → H' a = some o) (n : ∀ a, U' a → U a ∨ H a = none) : DR E H' U' v d := by
  obtain ⟨ns, r, q⟩ := h
  refine ⟨ns, r.mono fun a m o e => k a o (q a m).1 e, fun a m => ⟨fun u => ?_, ?_⟩⟩
  · rcases n a u with z | z
    · exact (q a m).1 z
    · exact (q a m).2 z
  · cases e : H a with
    | none => exact absurd e (q a m).2
    | some o => rw [k a o (q a m).1 e]; exact fun z => nomatch z
theorem DRs.mono {vs : List V} {ds : List D} (h : DRs E H U vs ds) (k : ∀ a o, ¬ U a → H a = some o → H' a = some o) (n : ∀ a, U' a → U a ∨ H a = none) : DRs E H' U' vs ds := h.imp fun _ _ r => r.mono k n
theorem DR.lst {a : Addr} {xs : List V} {ds : List D} (h : H a = some (.lst xs)) (u : ¬ U a) (r : DRs E H U xs ds) : DR E H U (.ref a) (.list ds) := by
  obtain ⟨ns, r, k⟩ := r.rd
  refine ⟨_, .lst h r, fun b m => ?_⟩
  rcases List.mem_cons.mp m with rfl | m
  · exact ⟨u, by rw [h]; exact fun z => nomatch z⟩
  · exact k b m
theorem DR.tup {a : Addr} {xs : List V} {ds : List D} (h : TP H a xs) (u : ¬ U a) (r : DRs E H U xs ds) : DR E H U (.ref a) (.tuple ds) := by
  obtain ⟨ns, r, k⟩ := r.rd
  refine ⟨_, .tup h r, fun b m => ?_⟩
  rcases List.mem_cons.mp m with rfl | m
  · exact ⟨u, h.ne⟩
  · exact k b m
theorem DR.dicK {a : Addr} {kvs : List (Key × V)} {vs : List D} (h : H a = some (.dK kvs)) (u : ¬ U a) (r : DRs E H U (kvs.map (·.2)) vs) : DR E H U (.ref a) (.dict ((kvs.map fun p => kD p.1).zip vs)) := by
  obtain ⟨ns, r, k⟩ := r.rd
  refine ⟨_, .dicK h rfl r, fun b m => ?_⟩
  rcases List.mem_cons.mp m with rfl | m
  · exact ⟨u, by rw [h]; exact fun z => nomatch z⟩
  · exact k b m
theorem DR.non : DR E H U .non .none := ⟨_, .non, fun _ m => nomatch m⟩
theorem DR.bl (b : Bool) : DR E H U (.bl b) (.bool b) := ⟨_, .bl b, fun _ m => nomatch m⟩
theorem DR.int (i : Int) : DR E H U (.int i) (.int i) := ⟨_, .int i, fun _ m => nomatch m⟩
theorem DR.str (x : Str) : DR E H U (.str x) (.str x) := ⟨_, .str x, fun _ m => nomatch m⟩
end
end L3
set_option Elab.async false
set_option linter.all false
set_option maxRecDepth 100000
namespace L3
open PySem PySem.Spec L2

/-! ## owned things, slots, states -/
inductive O where
  | dat (d : D)
  | scr (ns : List Int)
  | lst (ds : List D)
  | dic (kvs : List (D × D))
  | ins (C : Addr) (fs : List (Str × O))
  | lsO (os : List O)
  | dcO (kvs : List (D × O))

mutual
inductive OR (E : En) (H : Hp) (U : Addr → Prop) : V → O → List Addr → Prop
  | dat {v : V} {d : D} : DR E H U v d → OR E H U v (.dat d) []
  | scrF {a : Addr} {ns : List Int} {ob : Obj} : H a = some (.frz ob (.lst (ns.map V.int))) → OR E H U (.ref a) (.scr ns) []
  | scrK {a : Addr} {ns : List Int} : SqL E.K (fun _ => none) a (ns.map V.int) → OR E H U (.ref a) (.scr ns) []
  | lst {a : Addr} {xs : List V} {ds : List D} : H a = some (.lst xs) → DRs E H U xs ds → OR E H U (.ref a) (.lst ds) [a]
  | dicK {a : Addr} {kvs : List (Key × V)} {vs : List D} {ds : List (D × D)} : H a = some (.dK kvs) → ds = (kvs.map fun p => kD p.1).zip vs → DRs E H U (kvs.map (·.2)) vs → OR E H U (.ref a) (.dic ds) [a]
  | dicN {a : Addr} {es : List (NestedKey × Addr × V)} {ds : List (D × D)} {vs : List D} : H a = some (NdO E a es) → (∀ e ∈ es, e.1.depth ≤ 8) → ds = (es.map fun p => NestedKey.data p.1).zip vs →
      DRs E H U (es.map fun p => .ref p.2.1) (es.map fun p => NestedKey.data p.1) → DRs E H U (es.map (·.2.2)) vs → OR E H U (.ref a) (.dic ds) [a]
  | ins {a C dx : Addr} {vfs : List (Str × V)} {fs : List (Str × O)} {fp : List Addr} : H a = some (.ins C dx vfs) → vfs.map (·.1) = fs.map (·.1) → ORs E H U (vfs.map (·.2)) (fs.map (·.2)) fp → OR E H U (.ref a) (.ins C fs) (a :: fp)
  | lsO {a : Addr} {xs : List V} {os : List O} {fp : List Addr} : H a = some (.lst xs) → ORs E H U xs os fp → OR E H U (.ref a) (.lsO os) (a :: fp)
  | dcK {a : Addr} {kvs : List (Key × V)} {vs : List O} {ds : List (D × O)} {fp : List Addr} : H a = some (.dK kvs) → ds = (kvs.map fun p => kD p.1).zip vs → ORs E H U (kvs.map (·.2)) vs fp → OR E H U (.ref a) (.dcO ds) (a :: fp)
  | dcN {a : Addr} {es : List (NestedKey × Addr × V)} {ds : List (D × O)} {vs : List O} {fp : List Addr} : H a = some (NdO E a es) → (∀ e ∈ es, e.1.depth ≤ 8) → ds = (es.map fun p => NestedKey.data p.1).zip vs →
      DRs E H U (es.map fun p => .ref p.2.1) (es.map fun p => NestedKey.data p.1) → ORs E H U (es.map (·.2.2)) vs fp → OR E H U (.ref a) (.dcO ds) (a :: fp)
inductive ORs (E : En) (H : Hp) (U : Addr → Prop) : List V → List O → List Addr → Prop
  | nil : ORs E H U [] [] []
  | cons {v : V} {vs : List V} {o : O} {os : List O} {fp fq : List Addr} : OR E H U v o fp → ORs E H U vs os fq → ORs E H U (v :: vs) (o :: os) (fp ++ fq)
end

inductive SR (E : En) (H : Hp) (U : Addr → Prop) : L2.St → List (Option O) → List Addr → Prop
  | nil : SR E H U [] [] []
  | no {x : Option V} {σ : L2.St} {Γ : List (Option O)} {fp : List Addr} : SR E H U σ Γ fp → SR E H U (x :: σ) (none :: Γ) fp
  | yes {v : V} {o : O} {σ : L2.St} {Γ : List (Option O)} {fp fq : List Addr} : OR E H U v o fp → SR E H U σ Γ fq → SR E H U (some v :: σ) (some o :: Γ) (fp ++ fq)

section
variable {E : En} {H H' : Hp} {U U' : Addr → Prop}

/-- what stays for owned things with the footprint fp -/
structure Kp (H : Hp) (U : Addr → Prop) (H' : Hp) (U' : Addr → Prop) : Prop where
  keep : ∀ a o, ¬ U a → H a = some o → H' a = some o
  uni : ∀ a, U' a → U a ∨ H a = none
  frz : ∀ a ob u, H a = some (.frz ob u) → H' a = some (.frz ob u)
theorem DR.kp {v : V} {d : D} (h : DR E H U v d) (k : Kp H U H' U') : DR E H' U' v d := h.mono k.keep k.uni
theorem DRs.kp {vs : List V} {ds : List D} (h : DRs E H U vs ds) (k : Kp H U H' U') : DRs E H' U' vs ds := h.mono k.keep k.uni
mutual
theorem OR.kp (k : Kp H U H' U') : ∀ {v : V} {o : O} {fp : List Addr}, OR E H U v o fp → (∀ a ∈ fp, ∀ o, H a = some o → H' a = some o) → OR E H' U' v o fp
  | _, _, _, .dat r, _ => .dat (r.kp k)
  | _, _, _, .scrF h, _ => .scrF (k.frz _ _ _ h)
  | _, _, _, .scrK h, _ => .scrK h
  | _, _, _, .lst h r, f => .lst (f _ (List.mem_cons_self) _ h) (r.kp k)
  | _, _, _, .dicK h e r, f => .dicK (f _ (List.mem_cons_self) _ h) e (r.kp k)
  | _, _, _, .dicN h dp e r r2, f => .dicN (f _ (List.mem_cons_self) _ h) dp e (r.kp k) (r2.kp k)
  | _, _, _, .ins h e r, f => .ins (f _ (List.mem_cons_self) _ h) e (ORs.kp k r fun a m => f a (List.mem_cons_of_mem _ m))
  | _, _, _, .lsO h r, f => .lsO (f _ (List.mem_cons_self) _ h) (ORs.kp k r fun a m => f a (List.mem_cons_of_mem _ m))
  | _, _, _, .dcK h e r, f => .dcK (f _ (List.mem_cons_self) _ h) e (ORs.kp k r fun a m => f a (List.mem_cons_of_mem _ m))
  | _, _, _, .dcN h dp e r r2, f => .dcN (f _ (List.mem_cons_self) _ h) dp e (r.kp k) (ORs.kp k r2 fun a m => f a (List.mem_cons_of_mem _ m))
theorem ORs.kp (k : Kp H U H' U') : ∀ {vs : List V} {os : List O} {fp : List Addr}, ORs E H U vs os fp → (∀ a ∈ fp, ∀ o, H a = some o → H' a = some o) → ORs E H' U' vs os fp
  | _, _, _, .nil, _ => .nil
  | _, _, _, .cons r t, f => .cons (OR.kp k r fun a m => f a (List.mem_append_left _ m)) (ORs.kp k t fun a m => f a (List.mem_append_right _ m))
end
mutual
theorem OR.mut : ∀ {v : V} {o : O} {fp : List Addr}, OR E H U v o fp → ∀ a ∈ fp, Mut (H a)
  | _, _, _, .dat _, _, m => nomatch m
  | _, _, _, .scrF _, _, m => nomatch m
  | _, _, _, .scrK _, _, m => nomatch m
  | _, _, _, .lst h _, _, m => by rw [List.mem_singleton.mp m, h]; exact True.intro
  | _, _, _, .dicK h _ _, _, m => by rw [List.mem_singleton.mp m, h]; exact True.intro
  | _, _, _, .dicN h _ _ _ _, _, m => by rw [List.mem_singleton.mp m, h]; exact True.intro
  | _, _, _, .ins h _ r, _, m => by
    rcases List.mem_cons.mp m with rfl | m
    · rw [h]; exact True.intro
    · exact ORs.mut r _ m
  | _, _, _, .lsO h r, _, m => by
    rcases List.mem_cons.mp m with rfl | m
    · rw [h]; exact True.intro
    · exact ORs.mut r _ m
  | _, _, _, .dcK h _ r, _, m => by
    rcases List.mem_cons.mp m with rfl | m
    · rw [h]; exact True.intro
    · exact ORs.mut r _ m
  | _, _, _, .dcN h _ _ _ r, _, m => by
    rcases List.mem_cons.mp m with rfl | m
    · rw [h]; exact True.intro
    · exact ORs.mut r _ m
theorem ORs.mut : ∀ {vs : List V} {os : List O} {fp : List Addr}, ORs E H U vs os fp → ∀ a ∈ fp, Mut (H a)
  | _, _, _, .nil, _, m => nomatch m
  | _, _, _, .cons r t, a, m => (List.mem_append.mp m).elim (OR.mut r a) (ORs.mut t a)
end
theorem SR.kp (k : Kp H U H' U') : ∀ {σ : L2.St} {Γ : List (Option O)} {fp : List Addr}, SR E H U σ Γ fp → (∀ a ∈ fp, ∀ o, H a = some o → H' a = some o) → SR E H' U' σ Γ fp
  | _, _, _, .nil, _ => .nil
  | _, _, _, .no t, f => .no (SR.kp k t f)
  | _, _, _, .yes r t, f => .yes (r.kp k fun a m => f a (List.mem_append_left _ m)) (SR.kp k t fun a m => f a (List.mem_append_right _ m))
theorem SR.mut : ∀ {σ : L2.St} {Γ : List (Option O)} {fp : List Addr}, SR E H U σ Γ fp → ∀ a ∈ fp, Mut (H a)
  | _, _, _, .nil, _, m => nomatch m
  | _, _, _, .no t, a, m => SR.mut t a m
  | _, _, _, .yes r t, a, m => (List.mem_append.mp m).elim (r.mut a) (SR.mut t a)
theorem SR.length : ∀ {σ : L2.St} {Γ : List (Option O)} {fp : List Addr}, SR E H U σ Γ fp → σ.length = Γ.length
  | _, _, _, .nil => rfl
  | _, _, _, .no t => by rw [List.length_cons, List.length_cons, SR.length t]
  | _, _, _, .yes _ t => by rw [List.length_cons, List.length_cons, SR.length t]
/-- a slot's content, the slot then emptied -/
theorem SR.out : ∀ {σ : L2.St} {Γ : List (Option O)} {fp : List Addr} {i : Nat} {o : O}, SR E H U σ Γ fp → Γ[i]? = some (some o) →
    ∃ v fp1 fp2, σ[i]? = some (some v) ∧ OR E H U v o fp1 ∧ SR E H U σ (Γ.set i none) fp2 ∧ fp.Perm (fp1 ++ fp2)
  | _, _, _, _, _, .nil, e => by simp at e
  | _, _, _, 0, _, .no t, e => by simp at e
  | _, _, _, 0, _, .yes r t, e => by
    simp at e; subst e
    exact ⟨_, _, _, rfl, r, .no t, .refl _⟩
  | _, _, _, i + 1, o, .no t, e => by
    obtain ⟨v, fp1, fp2, h1, h2, h3, h4⟩ := SR.out (i := i) (o := o) t (by simpa using e)
    exact ⟨v, fp1, fp2, by simpa using h1, h2, .no h3, h4⟩
  | _, _, _, i + 1, o, .yes (fp := fp) (fq := fq) r t, e => by
    obtain ⟨v, fp1, fp2, h1, h2, h3, h4⟩ := SR.out (i := i) (o := o) t (by simpa using e)
    refine ⟨v, fp1, fp ++ fp2, by simpa using h1, h2, .yes r h3, ?_⟩
    refine (List.Perm.append_left fp h4).trans ?_
    rw [← List.append_assoc, ← List.append_assoc]
    exact List.Perm.append_right fp2 List.perm_append_comm
/-- .. filled -/
theorem SR.put : ∀ {σ : L2.St} {Γ : List (Option O)} {fp fp1 : List Addr} {i : Nat} {v : V} {o : O}, SR E H U σ Γ fp → i < Γ.length → OR E H U v o fp1 →
    ∃ fp2 rest, SR E H U (σ.set i (some v)) (Γ.set i (some o)) fp2 ∧ fp2.Perm (fp1 ++ rest) ∧ rest.Sublist fp ∧ (Γ[i]? = some none → rest = fp)
  | _, _, _, _, _, _, _, .nil, h, _ => by simp at h
  | _, _, fp, fp1, 0, v, o, .no t, _, r => ⟨fp1 ++ fp, fp, .yes r t, .refl _, List.Sublist.refl _, fun _ => rfl⟩
  | _, _, _, fp1, 0, v, o, .yes (fp := fp) (fq := fq) q t, _, r => ⟨fp1 ++ fq, fq, .yes r t, .refl _, List.sublist_append_right _ _, fun e => by simp at e⟩
  | _, _, _, _, i + 1, v, o, .no t, h, r => by
    obtain ⟨fp2, rest, h1, h2, h3, h4⟩ := SR.put (i := i) (v := v) (o := o) t (by simpa using h) r
    exact ⟨fp2, rest, .no h1, h2, h3, fun e => h4 (by simpa using e)⟩
  | _, _, _, fp1, i + 1, v, o, .yes (fp := fp) (fq := fq) q t, h, r => by
    obtain ⟨fp2, rest, h1, h2, h3, h4⟩ := SR.put (i := i) (v := v) (o := o) t (by simpa using h) r
    refine ⟨fp ++ fp2, fp ++ rest, .yes q h1, ?_, List.Sublist.append (List.Sublist.refl _) h3, fun e => by rw [h4 (by simpa using e)]⟩
    refine (List.Perm.append_left fp h2).trans ?_
    rw [← List.append_assoc, ← List.append_assoc]
    exact List.Perm.append_right rest List.perm_append_comm
/-- .. forgotten -/
theorem SR.drop : ∀ {σ : L2.St} {Γ : List (Option O)} {fp : List Addr} (i : Nat), SR E H U σ Γ fp → ∃ fp2, SR E H U σ (Γ.set i none) fp2 ∧ fp2.Sublist fp
  | _, _, _, _, .nil => ⟨[], .nil, List.Sublist.refl _⟩
  | _, _, fp, 0, .no t => ⟨fp, .no t, List.Sublist.refl _⟩
  | _, _, _, 0, .yes (fq := fq) r t => ⟨fq, .no t, List.sublist_append_right _ _⟩
  | _, _, _, i + 1, .no t => let ⟨fp2, h1, h2⟩ := SR.drop i t; ⟨fp2, .no h1, h2⟩
  | _, _, _, i + 1, .yes (fp := fp) r t => let ⟨fp2, h1, h2⟩ := SR.drop i t; ⟨fp ++ fp2, .yes r h1, List.Sublist.append (List.Sublist.refl _) h2⟩
theorem SR.none_set : ∀ {σ : L2.St} {Γ : List (Option O)} {fp : List Addr} {i : Nat} (x : Option V), SR E H U σ Γ fp → Γ[i]? = some none → SR E H U (σ.set i x) Γ fp
  | _, _, _, _, _, .nil, e => by simp at e
  | _, _, _, 0, _, .no t, _ => .no t
  | _, _, _, 0, _, .yes _ _, e => by simp at e
  | _, _, _, i + 1, x, .no t, e => .no (SR.none_set x t (by simpa using e))
  | _, _, _, i + 1, x, .yes r t, e => .yes r (SR.none_set x t (by simpa using e))
end

/-! ## a state, a step -/
abbrev Gm := List (Option O)
abbrev Pn := List (Nat × V)
structure REL (E : En) (P : Pn) (U : Addr → Prop) (fp : List Addr) (Γ : Gm) (σ : L2.St) (H : Hp) : Prop where
  slots : SR E H U σ Γ fp
  nodup : fp.Nodup
  sub : ∀ a ∈ fp, U a
  live : ∀ a, U a → Mut (H a)
  pins : ∀ p ∈ P, σ[p.1]? = some (some p.2)
structure Step (U : Addr → Prop) (fp : List Addr) (H : Hp) (U' : Addr → Prop) (fp' : List Addr) (H' : Hp) : Prop where
  keep : ∀ a o, H a = some o → a ∉ fp → H' a = some o
  own : ∀ a ∈ fp', a ∈ fp ∨ H a = none
  uni : ∀ a, U' a → U a ∨ H a = none
  forn : ∀ a, U a → a ∉ fp → U' a
theorem Step.refl {U : Addr → Prop} {fp : List Addr} {H : Hp} : Step U fp H U fp H := ⟨fun _ _ e _ => e, fun _ m => .inl m, fun _ u => .inl u, fun _ u _ => u⟩
theorem mut_some {o : Option HO} (h : Mut o) : o ≠ none := fun e => by subst e; exact h
theorem Step.trans {U U' U'' : Addr → Prop} {fp fp' fp'' : List Addr} {H H' H'' : Hp} (sub : ∀ a ∈ fp, U a) (live : ∀ a, U a → Mut (H a)) (s : Step U fp H U' fp' H') (t : Step U' fp' H' U'' fp'' H'') : Step U fp H U'' fp'' H'' := by
  have n : ∀ a, H' a = none → a ∈ fp ∨ H a = none := fun a e => by
    cases q : H a with
    | none => exact .inr rfl
    | some o =>
      by_cases m : a ∈ fp
      · exact .inl m
      · rw [s.keep a o q m] at e; cases e
  refine ⟨fun a o e m => t.keep a o (s.keep a o e m) fun m' => ?_, fun a m => ?_, fun a u => ?_, fun a u m => ?_⟩
  · rcases s.own a m' with z | z
    · exact m z
    · rw [z] at e; cases e
  · rcases t.own a m with z | z
    · exact s.own a z
    · exact n a z
  · rcases t.uni a u with z | z
    · exact s.uni a z
    · rcases n a z with z | z
      · exact .inl (sub a z)
      · exact .inr z
  · refine t.forn a (s.forn a u m) fun m' => ?_
    rcases s.own a m' with z | z
    · exact m z
    · exact mut_some (live a u) z
theorem REL.trans {E : En} {P : Pn} {U U' U'' : Addr → Prop} {fp fp' fp'' : List Addr} {H H' H'' : Hp} {Γ : Gm} {σ : L2.St} (r : REL E P U fp Γ σ H) (s : Step U fp H U' fp' H') (t : Step U' fp' H' U'' fp'' H'') : Step U fp H U'' fp'' H'' := s.trans r.sub r.live t
/-- what stays, for things outside the owned part -/
theorem Step.kp {E : En} {P : Pn} {U U' : Addr → Prop} {fp fp' : List Addr} {H H' : Hp} {Γ : Gm} {σ : L2.St} (r : REL E P U fp Γ σ H) (s : Step U fp H U' fp' H') : Kp H U H' U' where
  keep := fun a o u e => s.keep a o e fun m => u (r.sub a m)
  uni := s.uni
  frz := fun a ob u e => s.keep a _ e fun m => by
    have q := r.slots.mut a m
    rw [e] at q; exact q
/-- the heap has grown -/
abbrev Ex (H H' : Hp) : Prop := ∀ a o, H a = some o → H' a = some o
theorem Ex.refl (H : Hp) : Ex H H := fun _ _ e => e
theorem Ex.trans {H H' H'' : Hp} (a : Ex H H') (b : Ex H' H'') : Ex H H'' := fun x o e => b x o (a x o e)
theorem Ex.new {H : Hp} {p : Addr} {o : HO} (h : H p = none) : Ex H (upd H p o) := fun a u e => by
  rw [upd_ne (ne_of_none e h)]
  exact e
theorem Ex.free {H H' : Hp} (e : Ex H H') {p : Addr} (h : H' p = none) : H p = none := by
  cases q : H p with
  | none => rfl
  | some o => rw [e p o q] at h; cases h
theorem Ex.kp {U : Addr → Prop} {H H' : Hp} (e : Ex H H') : Kp H U H' U := ⟨fun a o _ q => e a o q, fun _ u => .inl u, fun a _ _ q => e a _ q⟩
theorem Ex.step {U : Addr → Prop} {fp : List Addr} {H H' : Hp} (e : Ex H H') : Step U fp H U fp H' := ⟨fun a o q _ => e a o q, fun _ m => .inl m, fun _ u => .inl u, fun _ u _ => u⟩
theorem REL.ex {E : En} {P : Pn} {U : Addr → Prop} {fp : List Addr} {H H' : Hp} {Γ : Gm} {σ : L2.St} (r : REL E P U fp Γ σ H) (e : Ex H H') : REL E P U fp Γ σ H' :=
  ⟨r.slots.kp e.kp fun a _ o q => e a o q, r.nodup, r.sub, fun a u => by
    have m := r.live a u
    cases q : H a with
    | none => rw [q] at m; exact m.elim
    | some o => rw [e a o q, ← q]; exact m, r.pins⟩
end L3
set_option Elab.async false
set_option linter.all false
set_option maxRecDepth 100000
namespace L3
open PySem PySem.Spec L2

/-! ## views -/
def VW (E : En) (H : Hp) (U : Addr → Prop) (v : V) (d : D) : Prop := ∃ ns, RD E H v d ns ∧ ∀ a ∈ ns.tail, ¬ U a ∧ H a ≠ none
inductive VWs (E : En) (H : Hp) (U : Addr → Prop) : List V → List D → Prop
  | nil : VWs E H U [] []
  | cons {v : V} {vs : List V} {d : D} {ds : List D} : VW E H U v d → VWs E H U vs ds → VWs E H U (v :: vs) (d :: ds)
section
variable {E : En} {H H' : Hp} {U : Addr → Prop}
theorem DR.vw {v : V} {d : D} (h : DR E H U v d) : VW E H U v d := let ⟨ns, r, k⟩ := h; ⟨ns, r, fun a m => k a (List.mem_of_mem_tail m)⟩
theorem VW.ex {v : V} {d : D} (h : VW E H U v d) (e : Ex H H') : VW E H' U v d := by
  obtain ⟨ns, r, k⟩ := h
  refine ⟨ns, r.mono fun a _ o q => e a o q, fun a m => ⟨(k a m).1, ?_⟩⟩
  cases q : H a with
  | none => exact absurd q (k a m).2
  | some o => rw [e a o q]; exact fun z => nomatch z
theorem VWs.ex {vs : List V} {ds : List D} (h : VWs E H U vs ds) (e : Ex H H') : VWs E H' U vs ds := by
  induction h with
  | nil => exact .nil
  | cons r _ ih => exact .cons (r.ex e) ih
theorem DRs.vws {vs : List V} {ds : List D} (h : DRs E H U vs ds) : VWs E H U vs ds := by
  induction h with
  | nil => exact .nil
  | cons r _ ih => exact .cons r.vw ih
theorem VW.lst {v : V} {ds : List D} (h : VW E H U v (.list ds)) : ∃ a xs, v = .ref a ∧ H a = some (.lst xs) ∧ DRs E H U xs ds := by
  obtain ⟨ns, r, k⟩ := h
  cases r with
  | lst e r => exact ⟨_, _, rfl, e, r.dr k⟩
theorem VW.tup {v : V} {ds : List D} (h : VW E H U v (.tuple ds)) : ∃ a xs, v = .ref a ∧ TP H a xs ∧ DRs E H U xs ds := by
  obtain ⟨ns, r, k⟩ := h
  cases r with
  | tup e r => exact ⟨_, _, rfl, e, r.dr k⟩
theorem VW.int {v : V} {i : Int} (h : VW E H U v (.int i)) : v = .int i := by
  obtain ⟨ns, r, k⟩ := h
  cases r; rfl
theorem VW.str {v : V} {i : Str} (h : VW E H U v (.str i)) : v = .str i := by
  obtain ⟨ns, r, k⟩ := h
  cases r; rfl
theorem VW.bl {v : V} {i : Bool} (h : VW E H U v (.bool i)) : v = .bl i := by
  obtain ⟨ns, r, k⟩ := h
  cases r; rfl
theorem VW.non {v : V} (h : VW E H U v .none) : v = .non := by
  obtain ⟨ns, r, k⟩ := h
  cases r; rfl
theorem VW.none_iff {v : V} {d : D} (h : VW E H U v d) : v = .non ↔ d = .none := by
  obtain ⟨ns, r, k⟩ := h
  cases r <;> exact ⟨fun e => (by first | rfl | cases e), fun e => (by first | rfl | cases e)⟩
theorem VW.dict {v : V} {ds : List (D × D)} (h : VW E H U v (.dict ds)) :
    (∃ a kvs vs, v = .ref a ∧ H a = some (.dK kvs) ∧ ds = (kvs.map fun p => kD p.1).zip vs ∧ DRs E H U (kvs.map (·.2)) vs) ∨
    (∃ a es vs, v = .ref a ∧ H a = some (NdO E a es) ∧ (∀ e ∈ es, e.1.depth ≤ 8) ∧ ds = (es.map fun p => NestedKey.data p.1).zip vs ∧
      DRs E H U (es.map fun p => .ref p.2.1) (es.map fun p => NestedKey.data p.1) ∧ DRs E H U (es.map (·.2.2)) vs) := by
  obtain ⟨ns, r, k⟩ := h
  cases r with
  | dicK e q r => exact .inl ⟨_, _, _, rfl, e, q, r.dr k⟩
  | dicN e dp q r r2 => exact .inr ⟨_, _, _, rfl, e, dp, q, r.dr fun a m => k a (List.mem_append_left _ m), r2.dr fun a m => k a (List.mem_append_right _ m)⟩
/-- what an owned thing reads as -/
def O.view : O → Option D
  | .dat d => some d
  | .lst ds => some (.list ds)
  | .dic kvs => some (.dict kvs)
  | _ => none
theorem OR.view {v : V} {o : O} {fp : List Addr} {d : D} (h : OR E H U v o fp) (e : o.view = some d) : VW E H U v d := by
  cases h with
  | dat r => cases e; exact r.vw
  | lst q r =>
    cases e
    obtain ⟨ns, r, k⟩ := r.rd
    exact ⟨_, .lst q r, k⟩
  | dicK q z r =>
    cases e
    obtain ⟨ns, r, k⟩ := r.rd
    exact ⟨_, .dicK q z r, k⟩
  | dicN q dp z r r2 =>
    cases e
    obtain ⟨ns, r, k⟩ := r.rd
    obtain ⟨ms, r2, k2⟩ := r2.rd
    exact ⟨_, .dicN q dp z r r2, fun a m => (List.mem_append.mp m).elim (k a) (k2 a)⟩
  | scrF _ => cases e
  | scrK _ => cases e
  | ins _ _ _ => cases e
  | lsO _ _ => cases e
  | dcK _ _ _ => cases e
  | dcN _ _ _ _ _ => cases e
end

/-! ## judgements -/
abbrev WV := Gm → (D → Prop) → Prop
abbrev WE := Gm → (D → Gm → Prop) → Prop
abbrev WO := Gm → (O → Gm → Prop) → Prop
abbrev WA := Gm → (List D → Prop) → Prop
abbrev WAE := Gm → (List D → Gm → Prop) → Prop
abbrev WT := Gm → (Bool → Prop) → Prop
abbrev WTE := Gm → (Bool → Gm → Prop) → Prop
def jV (E : En) (P : Pn) (w : WV) : TE := fun σ H Q' => ∃ U fp Γ Q, REL E P U fp Γ σ H ∧ w Γ Q ∧ ∀ v H' d, Ex H H' → VW E H' U v d → Q d → Q' v H'
def jF (E : En) (P : Pn) (w : WV) : TE := fun σ H Q' => ∃ U fp Γ Q, REL E P U fp Γ σ H ∧ w Γ Q ∧ ∀ v H' d, Ex H H' → DR E H' U v d → Q d → Q' v H'
def jE (E : En) (P : Pn) (w : WE) : TE := fun σ H Q' => ∃ U fp Γ Q, REL E P U fp Γ σ H ∧ w Γ Q ∧ ∀ v H' U' fp' Γ' d, Step U fp H U' fp' H' → REL E P U' fp' Γ' σ H' → DR E H' U' v d → Q d Γ' → Q' v H'
/-- a new owned thing -/
def jO (E : En) (P : Pn) (w : WO) : TE := fun σ H Q' => ∃ U fp Γ Q, REL E P U fp Γ σ H ∧ w Γ Q ∧ ∀ v H' U' fp' Γ' o fo, Step U fp H U' (fo ++ fp') H' → REL E P U' fp' Γ' σ H' → OR E H' U' v o fo → (fo ++ fp').Nodup → (∀ a ∈ fo, U' a) → Q o Γ' → Q' v H'
def jAV (E : En) (P : Pn) (w : WA) : TA := fun σ H Q' => ∃ U fp Γ Q, REL E P U fp Γ σ H ∧ w Γ Q ∧ ∀ vs H' ds, Ex H H' → VWs E H' U vs ds → Q ds → Q' vs H'
def jAF (E : En) (P : Pn) (w : WA) : TA := fun σ H Q' => ∃ U fp Γ Q, REL E P U fp Γ σ H ∧ w Γ Q ∧ ∀ vs H' ds, Ex H H' → DRs E H' U vs ds → Q ds → Q' vs H'
def jAE (E : En) (P : Pn) (w : WAE) : TA := fun σ H Q' => ∃ U fp Γ Q, REL E P U fp Γ σ H ∧ w Γ Q ∧ ∀ vs H' U' fp' Γ' ds, Step U fp H U' fp' H' → REL E P U' fp' Γ' σ H' → DRs E H' U' vs ds → Q ds Γ' → Q' vs H'
def jT (E : En) (P : Pn) (w : WT) : TT := fun σ H Q' => ∃ U fp Γ Q, REL E P U fp Γ σ H ∧ w Γ Q ∧ ∀ b H', Ex H H' → Q b → Q' b H'
def jTE (E : En) (P : Pn) (w : WTE) : TT := fun σ H Q' => ∃ U fp Γ Q, REL E P U fp Γ σ H ∧ w Γ Q ∧ ∀ b H' U' fp' Γ', Step U fp H U' fp' H' → REL E P U' fp' Γ' σ H' → Q b Γ' → Q' b H'

abbrev QV (X : Cx) (P : Pn) (e : Expr) (w : WV) : Prop := PE X e (jV (en X) P w)
abbrev QF (X : Cx) (P : Pn) (e : Expr) (w : WV) : Prop := PE X e (jF (en X) P w)
abbrev QE (X : Cx) (P : Pn) (e : Expr) (w : WE) : Prop := PE X e (jE (en X) P w)
abbrev QO (X : Cx) (P : Pn) (e : Expr) (w : WO) : Prop := PE X e (jO (en X) P w)
abbrev QAV (X : Cx) (P : Pn) (es : List Expr) (w : WA) : Prop := PA X es (jAV (en X) P w)
abbrev QAF (X : Cx) (P : Pn) (es : List Expr) (w : WA) : Prop := PA X es (jAF (en X) P w)
abbrev QAE (X : Cx) (P : Pn) (es : List Expr) (w : WAE) : Prop := PA X es (jAE (en X) P w)
abbrev QT (X : Cx) (P : Pn) (e : Expr) (w : WT) : Prop := PT X e (jT (en X) P w)
abbrev QTE (X : Cx) (P : Pn) (e : Expr) (w : WTE) : Prop := PT X e (jTE (en X) P w)

section
variable {X : Cx} {P : Pn} {e a b : Expr} {es : List Expr} {E : En}
theorem pe_imp {t t' : TE} (h : PE X e t) (f : ∀ σ H Q, t' σ H Q → t σ H Q) : PE X e t' := ⟨fun pins s σ H Q I q => h.run pins s σ H Q I (f σ H Q q)⟩
theorem pt_imp {t t' : TT} (h : PT X e t) (f : ∀ σ H Q, t' σ H Q → t σ H Q) : PT X e t' := ⟨fun pins s σ H Q I q => h.run pins s σ H Q I (f σ H Q q)⟩
theorem pa_imp {t t' : TA} (h : PA X es t) (f : ∀ σ H Q, t' σ H Q → t σ H Q) : PA X es t' := ⟨fun pos pins s σ H Q I q => h.run pos pins s σ H Q I (f σ H Q q)⟩
theorem ps_imp {st : Stmt} {t t' : TS} (h : PS X st t) (f : ∀ D σ H, t' D σ H → t D σ H) : PS X st t' := ⟨fun pins s σ H D I q => h.run pins s σ H D I (f D σ H q)⟩
theorem pss_imp {st : List Stmt} {t t' : TS} (h : PSs X st t) (f : ∀ D σ H, t' D σ H → t D σ H) : PSs X st t' := ⟨fun pins s σ H D I q => h.run pins s σ H D I (f D σ H q)⟩
@[simp] def up (w : WV) : WE := fun Γ Q => w Γ fun d => Q d Γ
@[simp] def upA (w : WA) : WAE := fun Γ Q => w Γ fun d => Q d Γ
@[simp] def upT (w : WT) : WTE := fun Γ Q => w Γ fun d => Q d Γ
theorem qv {w : WV} (h : QF X P e w) : QV X P e w := pe_imp h fun σ H Q' ⟨U, fp, Γ, Q, r, q, k⟩ => ⟨U, fp, Γ, Q, r, q, fun v H' d ex dr z => k v H' d ex dr.vw z⟩
theorem qe {w : WV} (h : QF X P e w) : QE X P e (up w) := pe_imp h fun σ H Q' ⟨U, fp, Γ, Q, r, q, k⟩ => ⟨U, fp, Γ, _, r, q, fun v H' d ex dr z => k v H' U fp Γ d ex.step (r.ex ex) dr z⟩
theorem qae {w : WA} (h : QAF X P es w) : QAE X P es (upA w) := pa_imp h fun σ H Q' ⟨U, fp, Γ, Q, r, q, k⟩ => ⟨U, fp, Γ, _, r, q, fun v H' d ex dr z => k v H' U fp Γ d ex.step (r.ex ex) dr z⟩
theorem qte {w : WT} (h : QT X P e w) : QTE X P e (upT w) := pt_imp h fun σ H Q' ⟨U, fp, Γ, Q, r, q, k⟩ => ⟨U, fp, Γ, _, r, q, fun v H' ex z => k v H' U fp Γ ex.step (r.ex ex) z⟩

/-! ### names, constants -/
def wVar (i : Nat) : WV := fun Γ Q => match Γ[i]? with
  | some (some o) => match o.view with
    | some d => Q d
    | none => False
  | _ => False
def wDat (i : Nat) : WV := fun Γ Q => match Γ[i]? with
  | some (some (.dat d)) => Q d
  | _ => False
theorem qv_name {i : Nat} (h : PE X e (tVar i)) : QV X P e (wVar i) := pe_imp h fun σ H Q' ⟨U, fp, Γ, Q, r, q, k⟩ => by
  unfold wVar at q
  split at q
  · rename_i o ho
    split at q
    · rename_i d hd
      obtain ⟨v, _, _, h1, h2, _, _⟩ := r.slots.out ho
      exact ⟨v, h1, k v H d (Ex.refl H) (h2.view hd) q⟩
    · exact q.elim
  · exact q.elim
theorem qf_name {i : Nat} (h : PE X e (tVar i)) : QF X P e (wDat i) := pe_imp h fun σ H Q' ⟨U, fp, Γ, Q, r, q, k⟩ => by
  unfold wDat at q
  split at q
  · rename_i d ho
    obtain ⟨v, _, _, h1, h2, _, _⟩ := r.slots.out ho
    cases h2 with
    | dat dr => exact ⟨v, h1, k v H d (Ex.refl H) dr q⟩
  · exact q.elim
@[simp] def wC (d : D) : WV := fun _ Q => Q d
theorem qf_int {i : Int} {j pos} : QF X P (.Constant (.int i) j pos) (wC (.int i)) := pe_imp pe_int fun σ H Q' ⟨U, fp, Γ, Q, r, q, k⟩ => k _ H _ (Ex.refl H) (.int i) q
theorem qf_bl {i : Bool} {j pos} : QF X P (.Constant (.bool i) j pos) (wC (.bool i)) := pe_imp pe_bl fun σ H Q' ⟨U, fp, Γ, Q, r, q, k⟩ => k _ H _ (Ex.refl H) (.bl i) q
theorem qf_str {i : Str} {j pos} : QF X P (.Constant (.str i) j pos) (wC (.str i)) := pe_imp pe_str fun σ H Q' ⟨U, fp, Γ, Q, r, q, k⟩ => k _ H _ (Ex.refl H) (.str i) q
theorem qf_non {j pos} : QF X P (.Constant .none j pos) (wC .none) := pe_imp pe_non fun σ H Q' ⟨U, fp, Γ, Q, r, q, k⟩ => k _ H _ (Ex.refl H) .non q

/-! ### argument lists -/
@[simp] def wNil : WA := fun _ Q => Q []
@[simp] def wCons (w : WV) (ws : WA) : WA := fun Γ Q => w Γ fun d => ws Γ fun ds => Q (d :: ds)
@[simp] def wNilE : WAE := fun Γ Q => Q [] Γ
@[simp] def wConsE (w : WE) (ws : WAE) : WAE := fun Γ Q => w Γ fun d Γ1 => ws Γ1 fun ds Γ2 => Q (d :: ds) Γ2
theorem qav_nil : QAV X P [] wNil := pa_imp pa_nil fun σ H Q' ⟨U, fp, Γ, Q, r, q, k⟩ => k [] H [] (Ex.refl H) .nil q
theorem qaf_nil : QAF X P [] wNil := pa_imp pa_nil fun σ H Q' ⟨U, fp, Γ, Q, r, q, k⟩ => k [] H [] (Ex.refl H) .nil q
theorem qae_nil : QAE X P [] wNilE := pa_imp pa_nil fun σ H Q' ⟨U, fp, Γ, Q, r, q, k⟩ => k [] H U fp Γ [] .refl r .nil q
theorem qav_cons {w : WV} {ws : WA} (h : QV X P e w) (t : QAV X P es ws) (hs : starEach (e :: es) X.env = (false, eval e X.env) :: starEach es X.env := by rfl) : QAV X P (e :: es) (wCons w ws) :=
  pa_imp (pa_cons h t hs) fun σ H Q' ⟨U, fp, Γ, Q, r, q, k⟩ => ⟨U, fp, Γ, _, r, q, fun v H1 d e1 vw q1 => ⟨U, fp, Γ, _, r.ex e1, q1, fun vs H2 ds e2 vws q2 => k _ _ _ (e1.trans e2) (.cons (vw.ex e2) vws) q2⟩⟩
theorem qaf_cons {w : WV} {ws : WA} (h : QF X P e w) (t : QAF X P es ws) (hs : starEach (e :: es) X.env = (false, eval e X.env) :: starEach es X.env := by rfl) : QAF X P (e :: es) (wCons w ws) :=
  pa_imp (pa_cons h t hs) fun σ H Q' ⟨U, fp, Γ, Q, r, q, k⟩ => ⟨U, fp, Γ, _, r, q, fun v H1 d e1 vw q1 => ⟨U, fp, Γ, _, r.ex e1, q1, fun vs H2 ds e2 vws q2 => k _ _ _ (e1.trans e2) (.cons (vw.kp e2.kp) vws) q2⟩⟩
theorem qae_cons {w : WE} {ws : WAE} (h : QE X P e w) (t : QAE X P es ws) (hs : starEach (e :: es) X.env = (false, eval e X.env) :: starEach es X.env := by rfl) : QAE X P (e :: es) (wConsE w ws) :=
  pa_imp (pa_cons h t hs) fun σ H Q' ⟨U, fp, Γ, Q, r, q, k⟩ => ⟨U, fp, Γ, _, r, q, fun v H1 U1 fp1 Γ1 d s1 r1 dr q1 => ⟨U1, fp1, Γ1, _, r1, q1, fun vs H2 U2 fp2 Γ2 ds s2 r2 drs q2 =>
    k _ _ _ _ _ _ (r.trans s1 s2) r2 (.cons (dr.kp (s2.kp r1)) drs) q2⟩⟩

/-! ### operators by data -/
abbrev D1 := D → (D → Prop) → Prop
abbrev D2 := D → D → (D → Prop) → Prop
abbrev Dn := List D → (D → Prop) → Prop
def r1 (E : En) (f : D1) : V → Hp → VK → Prop := fun x H Q' => ∃ U d, (∀ a, U a → Mut (H a)) ∧ VW E H U x d ∧ f d fun z => ∀ v H', Ex H H' → DR E H' U v z → Q' v H'
def r2 (E : En) (f : D2) : R2 := fun x y H Q' => ∃ U d e, (∀ a, U a → Mut (H a)) ∧ VW E H U x d ∧ VW E H U y e ∧ f d e fun z => ∀ v H', Ex H H' → DR E H' U v z → Q' v H'
def rn (E : En) (f : Dn) : List V → Hp → VK → Prop := fun xs H Q' => ∃ U ds, (∀ a, U a → Mut (H a)) ∧ VWs E H U xs ds ∧ f ds fun z => ∀ v H', Ex H H' → DR E H' U v z → Q' v H'
abbrev Mono1 (f : D1) : Prop := ∀ d (Q Q' : D → Prop), (∀ z, Q z → Q' z) → f d Q → f d Q'
abbrev Mono2 (f : D2) : Prop := ∀ d e (Q Q' : D → Prop), (∀ z, Q z → Q' z) → f d e Q → f d e Q'
abbrev Monon (f : Dn) : Prop := ∀ d (Q Q' : D → Prop), (∀ z, Q z → Q' z) → f d Q → f d Q'
@[simp] def w1 (f : D1) (w : WV) : WV := fun Γ Q => w Γ fun d => f d Q
@[simp] def w2 (f : D2) (wa wb : WV) : WV := fun Γ Q => wa Γ fun d => wb Γ fun e => f d e Q
@[simp] def wn (f : Dn) (w : WA) : WV := fun Γ Q => w Γ fun d => f d Q
@[simp] def w1E (f : D1) (w : WE) : WE := fun Γ Q => w Γ fun d Γ1 => f d fun z => Q z Γ1
@[simp] def w2E (f : D2) (wa wb : WE) : WE := fun Γ Q => wa Γ fun d Γ1 => wb Γ1 fun e Γ2 => f d e fun z => Q z Γ2
@[simp] def wnE (f : Dn) (w : WAE) : WE := fun Γ Q => w Γ fun d Γ1 => f d fun z => Q z Γ1
theorem REL.live0 {P : Pn} {U : Addr → Prop} {fp : List Addr} {H : Hp} {Γ : Gm} {σ : L2.St} (r : REL E P U fp Γ σ H) : ∀ a, U a → Mut (H a) := r.live
theorem nofr {U : Addr → Prop} {H : Hp} (live : ∀ a, U a → Mut (H a)) {p : Addr} (h : H p = none) : ¬ U p := fun z => mut_some (live p z) h
theorem notup {U : Addr → Prop} {H : Hp} (live : ∀ a, U a → Mut (H a)) {p : Addr} {xs : List V} (h : TP H p xs) : ¬ U p := fun z => by
  have m := live p z
  obtain ⟨o, e, _⟩ := h
  rw [e] at m
  exact m
theorem tp_new {H : Hp} {p : Addr} {o : Obj} {xs : List V} (d : o.dict = none) : TP (upd H p (.frz o (.tup xs))) p xs := ⟨o, upd_same, d⟩
/-- a new tuple is laid -/
theorem laid_tup {X : Cx} {pins : List (Addr × Obj)} {σ : L2.St} {H : Hp} {s : Shared} {vs : List V} {us : List Value} {h' : Heap} {tk : Nat} {p : Addr} {Q : VK} (I : Inv X pins σ H s) (r1 : Vals vs us) (r3 : us.length ≤ sizeLine) (hk : ∀ b o, s.heap.get? b = some o → h'.get? b = some o)
    (hp : s.heap.objs.size ≤ p) (ho : h'.get? p = some { cls := .type "tuple", data := .seq us.toArray }) (q : ∀ o : Obj, H p = none → o.dict = none → Q (.ref p) (upd H p (.frz o (.tup vs)))) : EP X pins σ Q (.ref p) { s with heap := h', toks := tk } := by
  have hz' : vs.length ≤ sizeLine := by rw [r1.length]; exact r3
  exact ⟨.ref p, _, I.laid (t' := tk) hk hp (show ObjOk X.prog X.w _ _ _ (.frz { cls := .type "tuple", data := .seq us.toArray } (.tup vs)) from ⟨ho, hz', us, r1, ⟨_, ho, rfl, 0, rfl⟩⟩), rfl, q _ (I.hok.fresh hp) rfl⟩
/-- a tuple of written items -/
def tTupF (t : TA) : TE := fun σ H Q => t σ H fun xs H1 => xs.length ≤ sizeLine ∧ ∀ p o, H1 p = none → o.dict = none → Q (.ref p) (upd H1 p (.frz o (.tup xs)))
theorem pe_tupF {X : Cx} {es : List Expr} {t : TA} {pos : Pos} {x1} (h : PA X es t) : PE X (.Tuple es x1 pos) (tTupF t) := by
  refine ⟨fun pins s σ H Q I hq => ?_⟩
  refine wpAny_Tuple_spliced (thn (h.run pos pins s σ H _ I hq) fun us s1 ⟨xs, H1, I1, r, z, q⟩ => ⟨by rw [← r.length]; exact z, ?_⟩)
  exact laid_tup (tk := s1.toks) I1 r (by rw [← r.length]; exact z) (fun b u e => Heap.get?_push_of_some _ e) (Nat.le_refl _) (Heap.get?_push_size _ rfl) fun o h1 h2 => q _ o h1 h2
theorem lift2V {f : D2} (m : Mono2 f) {wa wb : WV} : ∀ σ H Q, jF E P (w2 f wa wb) σ H Q → tOp (r2 E f) (jV E P wa) (jV E P wb) σ H Q := fun σ H Q' ⟨U, fp, Γ, Q, r, q, k⟩ =>
  ⟨U, fp, Γ, _, r, q, fun x H1 d e1 vx q1 => ⟨U, fp, Γ, _, r.ex e1, q1, fun y H2 e e2 vy q2 => ⟨U, d, e, (r.ex (e1.trans e2)).live0, vx.ex e2, vy, m _ _ _ _ (fun z hz v H3 e3 dr => k v H3 z ((e1.trans e2).trans e3) dr hz) q2⟩⟩⟩
theorem lift2E {f : D2} (m : Mono2 f) {wa wb : WE} : ∀ σ H Q, jE E P (w2E f wa wb) σ H Q → tOp (r2 E f) (jE E P wa) (jE E P wb) σ H Q := fun σ H Q' ⟨U, fp, Γ, Q, r, q, k⟩ =>
  ⟨U, fp, Γ, _, r, q, fun x H1 U1 fp1 Γ1 d s1 r1 dx q1 => ⟨U1, fp1, Γ1, _, r1, q1, fun y H2 U2 fp2 Γ2 e s2 r2 dy q2 => ⟨U2, d, e, r2.live0, (dx.kp (s2.kp r1)).vw, dy.vw, m _ _ _ _ (fun z hz v H3 e3 dr =>
    k v H3 U2 fp2 Γ2 z ((r.trans s1 s2).trans r.sub r.live e3.step) (r2.ex e3) dr hz) q2⟩⟩⟩
theorem lift1V {f : D1} (m : Mono1 f) {wa : WV} : ∀ σ H Q, jF E P (w1 f wa) σ H Q → tUn (r1 E f) (jV E P wa) σ H Q := fun σ H Q' ⟨U, fp, Γ, Q, r, q, k⟩ =>
  ⟨U, fp, Γ, _, r, q, fun x H1 d e1 vx q1 => ⟨U, d, (r.ex e1).live0, vx, m _ _ _ (fun z hz v H3 e3 dr => k v H3 z (e1.trans e3) dr hz) q1⟩⟩
theorem lift1E {f : D1} (m : Mono1 f) {wa : WE} : ∀ σ H Q, jE E P (w1E f wa) σ H Q → tUn (r1 E f) (jE E P wa) σ H Q := fun σ H Q' ⟨U, fp, Γ, Q, r, q, k⟩ =>
  ⟨U, fp, Γ, _, r, q, fun x H1 U1 fp1 Γ1 d s1 r1 dx q1 => ⟨U1, d, r1.live0, dx.vw, m _ _ _ (fun z hz v H3 e3 dr => k v H3 U1 fp1 Γ1 z (s1.trans r.sub r.live e3.step) (r1.ex e3) dr hz) q1⟩⟩
theorem liftnV {f : Dn} (m : Monon f) {wa : WA} : ∀ σ H Q, jF E P (wn f wa) σ H Q → tCB (rn E f) (jAV E P wa) σ H Q := fun σ H Q' ⟨U, fp, Γ, Q, r, q, k⟩ =>
  ⟨U, fp, Γ, _, r, q, fun x H1 d e1 vx q1 => ⟨U, d, (r.ex e1).live0, vx, m _ _ _ (fun z hz v H3 e3 dr => k v H3 z (e1.trans e3) dr hz) q1⟩⟩
theorem liftnE {f : Dn} (m : Monon f) {wa : WAE} : ∀ σ H Q, jE E P (wnE f wa) σ H Q → tCB (rn E f) (jAE E P wa) σ H Q := fun σ H Q' ⟨U, fp, Γ, Q, r, q, k⟩ =>
  ⟨U, fp, Γ, _, r, q, fun x H1 U1 fp1 Γ1 d s1 r1 dx q1 => ⟨U1, d, r1.live0, dx.vws, m _ _ _ (fun z hz v H3 e3 dr => k v H3 U1 fp1 Γ1 z (s1.trans r.sub r.live e3.step) (r1.ex e3) dr hz) q1⟩⟩

variable {pos p : Pos} {x : Str}
theorem qf_op {op : Operator} {f : D2} {wa wb : WV} (ho : OpR X (binaryOp op) (r2 (en X) f)) (m : Mono2 f) (ha : QV X P a wa) (hb : QV X P b wb) : QF X P (.BinOp a op b pos) (w2 f wa wb) := pe_imp (pe_op ho ha hb) (lift2V m)
theorem qe_op {op : Operator} {f : D2} {wa wb : WE} (ho : OpR X (binaryOp op) (r2 (en X) f)) (m : Mono2 f) (ha : QE X P a wa) (hb : QE X P b wb) : QE X P (.BinOp a op b pos) (w2E f wa wb) := pe_imp (pe_op ho ha hb) (lift2E m)
theorem qf_un {op : UnaryOp} {f : D1} {wa : WV} (ho : UnR X (unaryOp op) (r1 (en X) f)) (m : Mono1 f) (ha : QV X P a wa) : QF X P (.UnaryOp op a pos) (w1 f wa) := pe_imp (pe_un ho ha) (lift1V m)
theorem qe_un {op : UnaryOp} {f : D1} {wa : WE} (ho : UnR X (unaryOp op) (r1 (en X) f)) (m : Mono1 f) (ha : QE X P a wa) : QE X P (.UnaryOp op a pos) (w1E f wa) := pe_imp (pe_un ho ha) (lift1E m)
theorem qf_cmp {op : CmpOp} {f : D2} {wa wb : WV} (ho : OpR X (compareOp op) (r2 (en X) f)) (m : Mono2 f) (ha : QV X P a wa) (hb : QV X P b wb) (hm : behindInMarks op b = false) : QF X P (.Compare a [op] [b] pos) (w2 f wa wb) := pe_imp (pe_cmpR ho ha hb hm) (lift2V m)
theorem qe_cmp {op : CmpOp} {f : D2} {wa wb : WE} (ho : OpR X (compareOp op) (r2 (en X) f)) (m : Mono2 f) (ha : QE X P a wa) (hb : QE X P b wb) (hm : behindInMarks op b = false) : QE X P (.Compare a [op] [b] pos) (w2E f wa wb) := pe_imp (pe_cmpR ho ha hb hm) (lift2E m)
theorem qf_ix {f : D2} {wa wb : WV} (ho : IxR X (r2 (en X) f)) (m : Mono2 f) (ha : QV X P a wa) (hb : QV X P b wb) (hs : PlainIx b) : QF X P (.Subscript a b pos) (w2 f wa wb) := pe_imp (pe_ix ho ha hb hs) (lift2V m)
theorem qe_ix {f : D2} {wa wb : WE} (ho : IxR X (r2 (en X) f)) (m : Mono2 f) (ha : QE X P a wa) (hb : QE X P b wb) (hs : PlainIx b) : QE X P (.Subscript a b pos) (w2E f wa wb) := pe_imp (pe_ix ho ha hb hs) (lift2E m)
theorem qf_callB {id : String} {f : Dn} {w : WA} (hc : CallR X (.builtin id) (rn (en X) f)) (m : Monon f) (hg : Gl X x) (hm : X.mg x = none) (hv : bootBuiltins x = some (.builtin id)) (ha : QAV X P (e :: es) w) (hn : x ≠ "__name__" := by decide) (hdb : (x == ("__debug__" : Str)) = false := by decide)
    (he : starEach (e :: es) X.env = (false, eval e X.env) :: starEach es X.env := by rfl) (hpl : (backTo pos (starEach es X.env)).any (·.1) = false := by rfl) : QF X P (.Call (.Name x p) (e :: es) [] pos) (wn f w) := pe_imp (pe_callB hc hg hm hv ha hn hdb he hpl) (liftnV m)
theorem qe_callB {id : String} {f : Dn} {w : WAE} (hc : CallR X (.builtin id) (rn (en X) f)) (m : Monon f) (hg : Gl X x) (hm : X.mg x = none) (hv : bootBuiltins x = some (.builtin id)) (ha : QAE X P (e :: es) w) (hn : x ≠ "__name__" := by decide) (hdb : (x == ("__debug__" : Str)) = false := by decide)
    (he : starEach (e :: es) X.env = (false, eval e X.env) :: starEach es X.env := by rfl) (hpl : (backTo pos (starEach es X.env)).any (·.1) = false := by rfl) : QE X P (.Call (.Name x p) (e :: es) [] pos) (wnE f w) := pe_imp (pe_callB hc hg hm hv ha hn hdb he hpl) (liftnE m)
theorem qf_callTy {id : String} {f : Dn} {w : WA} (hc : CallR X (.type id) (rn (en X) f)) (m : Monon f) (hg : Gl X x) (hm : X.mg x = none) (hv : bootBuiltins x = some (.type id)) (ha : QAV X P (e :: es) w) (hn : x ≠ "__name__" := by decide) (hdb : (x == ("__debug__" : Str)) = false := by decide)
    (he : starEach (e :: es) X.env = (false, eval e X.env) :: starEach es X.env := by rfl) (hpl : (backTo pos (starEach es X.env)).any (·.1) = false := by rfl) : QF X P (.Call (.Name x p) (e :: es) [] pos) (wn f w) := pe_imp (pe_callTy hc hg hm hv ha hn hdb he hpl) (liftnV m)
theorem qe_callTy {id : String} {f : Dn} {w : WAE} (hc : CallR X (.type id) (rn (en X) f)) (m : Monon f) (hg : Gl X x) (hm : X.mg x = none) (hv : bootBuiltins x = some (.type id)) (ha : QAE X P (e :: es) w) (hn : x ≠ "__name__" := by decide) (hdb : (x == ("__debug__" : Str)) = false := by decide)
    (he : starEach (e :: es) X.env = (false, eval e X.env) :: starEach es X.env := by rfl) (hpl : (backTo pos (starEach es X.env)).any (·.1) = false := by rfl) : QE X P (.Call (.Name x p) (e :: es) [] pos) (wnE f w) := pe_imp (pe_callTy hc hg hm hv ha hn hdb he hpl) (liftnE m)
end
end L3
set_option Elab.async false
set_option linter.all false
set_option maxRecDepth 100000
namespace L3
open PySem PySem.Spec L2

/-! ## operations on data -/
abbrev plD (d : D) : Prop := d.plain = true ∧ d.depth ≤ 50
mutual
def deq : D → D → Bool
  | .none, .none => true
  | .bool a, .bool b => decide (a = b)
  | .int a, .int b => decide (a = b)
  | .str a, .str b => decide (a = b)
  | .list a, .list b => deqs a b
  | .tuple a, .tuple b => deqs a b
  | .dict a, .dict b => deqp a b
  | _, _ => false
def deqs : List D → List D → Bool
  | [], [] => true
  | a :: as, b :: bs => deq a b && deqs as bs
  | _, _ => false
def deqp : List (D × D) → List (D × D) → Bool
  | [], [] => true
  | (a, c) :: as, (b, d) :: bs => deq a b && (deq c d && deqp as bs)
  | _, _ => false
end
mutual
theorem deq_self : ∀ a : D, deq a a = true
  | .none => by simp [deq]
  | .bool _ => by simp [deq]
  | .int _ => by simp [deq]
  | .str _ => by simp [deq]
  | .list a => by rw [deq]; exact deqs_self a
  | .tuple a => by rw [deq]; exact deqs_self a
  | .dict a => by rw [deq]; exact deqp_self a
theorem deqs_self : ∀ a : List D, deqs a a = true
  | [] => by simp [deqs]
  | a :: as => by rw [deqs, deq_self a, deqs_self as]; rfl
theorem deqp_self : ∀ a : List (D × D), deqp a a = true
  | [] => by simp [deqp]
  | (a, c) :: as => by rw [deqp, deq_self a, deq_self c, deqp_self as]; rfl
end
mutual
theorem eq_of_deq : ∀ a b : D, deq a b = true → a = b
  | .none, b, h => by cases b <;> simp [deq] at h <;> rfl
  | .bool a, b, h => by cases b <;> simp [deq] at h; rw [h]
  | .int a, b, h => by cases b <;> simp [deq] at h; rw [h]
  | .str a, b, h => by cases b <;> simp [deq] at h; rw [h]
  | .list a, b, h => by cases b <;> simp [deq] at h; rw [eq_of_deqs _ _ h]
  | .tuple a, b, h => by cases b <;> simp [deq] at h; rw [eq_of_deqs _ _ h]
  | .dict a, b, h => by cases b <;> simp [deq] at h; rw [eq_of_deqp _ _ h]
theorem eq_of_deqs : ∀ a b : List D, deqs a b = true → a = b
  | [], b, h => by cases b <;> simp [deqs] at h; rfl
  | a :: as, b, h => by
    cases b with
    | nil => simp [deqs] at h
    | cons b bs =>
      simp only [deqs, Bool.and_eq_true] at h
      rw [eq_of_deq _ _ h.1, eq_of_deqs _ _ h.2]
theorem eq_of_deqp : ∀ a b : List (D × D), deqp a b = true → a = b
  | [], b, h => by cases b <;> simp [deqp] at h; rfl
  | (a, c) :: as, b, h => by
    cases b with
    | nil => simp [deqp] at h
    | cons b bs =>
      obtain ⟨b, d⟩ := b
      simp only [deqp, Bool.and_eq_true] at h
      rw [eq_of_deq _ _ h.1, eq_of_deq _ _ h.2.1, eq_of_deqp _ _ h.2.2]
end
instance : DecidableEq D := fun a b => if h : deq a b = true then .isTrue (eq_of_deq a b h) else .isFalse fun e => h (e ▸ deq_self a)

section
variable {X : Cx} {E : En}
mutual
theorem RD.reads {pins : List (Addr × Obj)} {σ : L2.St} {H : Hp} {s : Shared} (I : Inv X pins σ H s) : ∀ (d : D) (v : V) (u : Value) (ns : List Addr), RD (en X) H v d ns → d.plain = true → RelV v u → ∃ as, Reads s.heap u d as
  | .none, _, _, _, h, _, r => by cases h; cases r; exact ⟨_, .none⟩
  | .bool b, _, _, _, h, _, r => by cases h; cases r; exact ⟨_, .bool b⟩
  | .int i, _, _, _, h, _, r => by cases h; obtain ⟨t, rfl⟩ := r; exact ⟨_, .int i t⟩
  | .str x, _, _, _, h, _, r => by cases h; obtain ⟨t, rfl⟩ := r; exact ⟨_, .str x t⟩
  | .list ds, _, _, _, h, p, r => by
    cases h with
    | lst hs ha =>
      cases r
      obtain ⟨its, rv, ⟨o, n, ho, hc, _, hd⟩, _⟩ := I.list (SqL.of hs)
      obtain ⟨as, hr⟩ := RD.readsAll I ds _ its _ ha (by simpa [PyData.plain] using p) rv
      exact ⟨_, .list ho hc hd hr⟩
  | .tuple ds, _, _, _, h, p, r => by
    cases h with
    | tup hs ha =>
      cases r
      obtain ⟨its, rv, ⟨o, ho, hc, n, hd⟩, _⟩ := I.tuple hs.sq
      obtain ⟨as, hr⟩ := RD.readsAll I ds _ its _ ha (by simpa [PyData.plain] using p) rv
      exact ⟨_, .tuple ho hc hd hr⟩
  | .dict _, _, _, _, _, p, _ => by cases p
theorem RD.readsAll {pins : List (Addr × Obj)} {σ : L2.St} {H : Hp} {s : Shared} (I : Inv X pins σ H s) : ∀ (ds : List D) (vs : List V) (us : List Value) (ns : List Addr), RDs (en X) H vs ds ns → PyData.plainAll ds = true → Vals vs us → ∃ as, ReadsAll s.heap us ds as
  | [], _, _, _, h, _, r => by cases h; cases r; exact ⟨_, .nil⟩
  | d :: ds, _, _, _, h, p, r => by
    cases h with
    | cons h1 h2 =>
      cases r with
      | cons r1 r2 =>
        simp only [PyData.plainAll, Bool.and_eq_true] at p
        obtain ⟨as, q1⟩ := RD.reads I d _ _ _ h1 p.1 r1
        obtain ⟨bs, q2⟩ := RD.readsAll I ds _ _ _ h2 p.2 r2
        exact ⟨_, .cons q1 q2⟩
end
theorem VW.reads {pins : List (Addr × Obj)} {σ : L2.St} {H : Hp} {s : Shared} {U : Addr → Prop} {d : D} {v : V} {u : Value} (I : Inv X pins σ H s) (h : VW (en X) H U v d) (p : d.plain = true) (r : RelV v u) : ∃ as, Reads s.heap u d as :=
  let ⟨_, h, _⟩ := h; RD.reads I d v u _ h p r

/-! ### arithmetic, + -/
def dAdd : D2 := fun d e Q => match d, e with
  | .int i, .int j => Q (.int (i + j))
  | .str x, .str y => x.length + y.length ≤ sizeLine ∧ Q (.str (x ++ y))
  | .list xs, .list ys => xs.length + ys.length ≤ sizeLine ∧ Q (.list (xs ++ ys))
  | .tuple xs, .tuple ys => xs.length + ys.length ≤ sizeLine ∧ Q (.tuple (xs ++ ys))
  | _, _ => False
theorem m_add : Mono2 dAdd := fun d e Q Q' h q => by
  unfold dAdd at *; split at q <;> first | exact h _ q | exact ⟨q.1, h _ q.2⟩ | exact q.elim
theorem o_add : OpR X (binaryOp .Add) (r2 (en X) dAdd) := by
  intro pins s σ H x y v u Q I rx ry ⟨U, d, e, live, vx, vy, q⟩
  unfold dAdd at q
  split at q
  · cases vx.int; cases vy.int
    exact op_add pins s σ H _ _ v u Q I rx ry ⟨_, _, rfl, rfl, q _ H (Ex.refl H) (.int _)⟩
  · cases vx.str; cases vy.str
    exact op_add_str pins s σ H _ _ v u Q I rx ry ⟨_, _, rfl, rfl, q.1, q.2 _ H (Ex.refl H) (.str _)⟩
  · obtain ⟨a, xs, rfl, ha, dx⟩ := vx.lst
    obtain ⟨b, ys, rfl, hb, dy⟩ := vy.lst
    exact op_cat pins s σ H _ _ v u Q I rx ry ⟨a, b, xs, ys, rfl, rfl, ha, hb, by rw [dx.length, dy.length]; exact q.1, fun p hp =>
      q.2 _ _ (Ex.new hp) (.lst upd_same (nofr live hp) ((dx.append dy).kp (Ex.new hp).kp))⟩
  · obtain ⟨a, xs, rfl, ha, dx⟩ := vx.tup
    obtain ⟨b, ys, rfl, hb, dy⟩ := vy.tup
    rename_i ds es
    cases rx
    cases ry
    obtain ⟨its, r1, p1, _⟩ := I.tuple ha.sq
    obtain ⟨its2, r2, p2, _⟩ := I.tuple hb.sq
    by_cases hx : xs = []
    · have e0 : ds = [] := List.eq_nil_of_length_eq_zero (by rw [← dx.length, hx]; rfl)
      subst e0 hx
      cases r1
      exact cat_tup0 p1 p2 ⟨.ref b, H, I, rfl, q.2 _ H (Ex.refl H) (.tup hb (notup live hb) dy)⟩
    · refine HT.cat_tup p1 p2 (fun z => hx (r1.nil_iff.mp z)) (fun z => ⟨.ref a, H, I, rfl, ?_⟩) (fun z => ?_) (by rw [← r1.length, ← r2.length, dx.length, dy.length]; exact q.1)
      · have e0 : es = [] := List.eq_nil_of_length_eq_zero (by rw [← dy.length, r2.nil_iff.mp z]; rfl)
        subst e0
        exact q.2 _ H (Ex.refl H) (by rw [List.append_nil]; exact .tup ha (notup live ha) dx)
      · exact laid_tup (tk := s.toks) I (r1.append r2) (by rw [List.length_append, ← r1.length, ← r2.length, dx.length, dy.length]; exact q.1) (fun b ob q => Heap.get?_push_of_some _ q) (Nat.le_refl _) (Heap.get?_push_size _ rfl) fun o hn hd =>
          q.2 _ _ (Ex.new hn) (.tup (tp_new hd) (nofr live hn) ((dx.append dy).kp (Ex.new hn).kp))
  · exact q.elim
def dSub : D2 := fun d e Q => match d, e with
  | .int i, .int j => Q (.int (i - j))
  | _, _ => False
theorem m_sub : Mono2 dSub := fun d e Q Q' h q => by
  unfold dSub at *; split at q <;> first | exact h _ q | exact ⟨q.1, h _ q.2⟩ | exact q.elim
theorem o_sub : OpR X (binaryOp .Sub) (r2 (en X) dSub) := by
  intro pins s σ H x y v u Q I rx ry ⟨U, d, e, live, vx, vy, q⟩
  unfold dSub at q
  split at q
  · cases vx.int; cases vy.int
    exact op_sub pins s σ H _ _ v u Q I rx ry ⟨_, _, rfl, rfl, q _ H (Ex.refl H) (.int _)⟩
  · exact q.elim
def dMul : D2 := fun d e Q => match d, e with
  | .int i, .int j => (CMul i j ∨ CMulW i j) ∧ Q (.int (i * j))
  | .list xs, .int k => (-(2 ^ 63) ≤ k ∧ k < 2 ^ 63 ∧ xs.length * k.toNat ≤ sizeLine) ∧ Q (.list (List.replicate k.toNat xs).flatten)
  | _, _ => False
theorem m_mul : Mono2 dMul := fun d e Q Q' h q => by
  unfold dMul at *; split at q <;> first | exact h _ q | exact ⟨q.1, h _ q.2⟩ | exact q.elim
theorem o_mul : OpR X (binaryOp .Mult) (r2 (en X) dMul) := by
  intro pins s σ H x y v u Q I rx ry ⟨U, d, e, live, vx, vy, q⟩
  unfold dMul at q
  split at q
  · cases vx.int; cases vy.int
    rcases q.1 with c | c
    · exact op_mul pins s σ H _ _ v u Q I rx ry ⟨_, _, rfl, rfl, c, q.2 _ H (Ex.refl H) (.int _)⟩
    · exact op_mulW pins s σ H _ _ v u Q I rx ry ⟨_, _, rfl, rfl, c, q.2 _ H (Ex.refl H) (.int _)⟩
  · obtain ⟨a, xs, rfl, ha, dx⟩ := vx.lst
    cases vy.int
    exact op_rep pins s σ H _ _ v u Q I rx ry ⟨a, _, xs, rfl, rfl, ha, q.1.1, q.1.2.1, by rw [dx.length]; exact q.1.2.2, fun p hp =>
      q.2 _ _ (Ex.new hp) (.lst upd_same (nofr live hp) ((dx.rep _).kp (Ex.new hp).kp))⟩
  · exact q.elim
def dFDiv : D2 := fun d e Q => match d, e with
  | .int i, .int j => CDivW i j ∧ Q (.int (i / j))
  | _, _ => False
theorem m_fdiv : Mono2 dFDiv := fun d e Q Q' h q => by
  unfold dFDiv at *; split at q <;> first | exact h _ q | exact ⟨q.1, h _ q.2⟩ | exact q.elim
theorem o_fdiv : OpR X (binaryOp .FloorDiv) (r2 (en X) dFDiv) := by
  intro pins s σ H x y v u Q I rx ry ⟨U, d, e, live, vx, vy, q⟩
  unfold dFDiv at q
  split at q
  · cases vx.int; cases vy.int
    exact op_fdivW pins s σ H _ _ v u Q I rx ry ⟨_, _, rfl, rfl, q.1, q.2 _ H (Ex.refl H) (.int _)⟩
  · exact q.elim
def dMod : D2 := fun d e Q => match d, e with
  | .int i, .int j => 0 < j ∧ Q (.int (i % j))
  | _, _ => False
theorem m_mod : Mono2 dMod := fun d e Q Q' h q => by
  unfold dMod at *; split at q <;> first | exact h _ q | exact ⟨q.1, h _ q.2⟩ | exact q.elim
theorem o_mod : OpR X (binaryOp .Mod) (r2 (en X) dMod) := by
  intro pins s σ H x y v u Q I rx ry ⟨U, d, e, live, vx, vy, q⟩
  unfold dMod at q
  split at q
  · cases vx.int; cases vy.int
    exact op_mod pins s σ H _ _ v u Q I rx ry ⟨_, _, rfl, rfl, q.1, q.2 _ H (Ex.refl H) (.int _)⟩
  · exact q.elim
def dPow : D2 := fun d e Q => match d, e with
  | .int i, .int j => CPow i j ∧ Q (.int (i ^ j.toNat))
  | _, _ => False
theorem m_pow : Mono2 dPow := fun d e Q Q' h q => by
  unfold dPow at *; split at q <;> first | exact h _ q | exact ⟨q.1, h _ q.2⟩ | exact q.elim
theorem o_pow : OpR X (binaryOp .Pow) (r2 (en X) dPow) := by
  intro pins s σ H x y v u Q I rx ry ⟨U, d, e, live, vx, vy, q⟩
  unfold dPow at q
  split at q
  · cases vx.int; cases vy.int
    exact op_pow pins s σ H _ _ v u Q I rx ry ⟨_, _, rfl, rfl, q.1, q.2 _ H (Ex.refl H) (.int _)⟩
  · exact q.elim
def dShl : D2 := fun d e Q => match d, e with
  | .int i, .int j => CPow i j ∧ Q (.int (i * 2 ^ j.toNat))
  | _, _ => False
theorem m_shl : Mono2 dShl := fun d e Q Q' h q => by
  unfold dShl at *; split at q <;> first | exact h _ q | exact ⟨q.1, h _ q.2⟩ | exact q.elim
theorem o_shl : OpR X (binaryOp .LShift) (r2 (en X) dShl) := by
  intro pins s σ H x y v u Q I rx ry ⟨U, d, e, live, vx, vy, q⟩
  unfold dShl at q
  split at q
  · cases vx.int; cases vy.int
    exact op_shl pins s σ H _ _ v u Q I rx ry ⟨_, _, rfl, rfl, q.1, q.2 _ H (Ex.refl H) (.int _)⟩
  · exact q.elim
def dShr : D2 := fun d e Q => match d, e with
  | .int i, .int j => 0 ≤ j ∧ Q (.int (i / 2 ^ j.toNat))
  | _, _ => False
theorem m_shr : Mono2 dShr := fun d e Q Q' h q => by
  unfold dShr at *; split at q <;> first | exact h _ q | exact ⟨q.1, h _ q.2⟩ | exact q.elim
theorem o_shr : OpR X (binaryOp .RShift) (r2 (en X) dShr) := by
  intro pins s σ H x y v u Q I rx ry ⟨U, d, e, live, vx, vy, q⟩
  unfold dShr at q
  split at q
  · cases vx.int; cases vy.int
    exact op_shr pins s σ H _ _ v u Q I rx ry ⟨_, _, rfl, rfl, q.1, q.2 _ H (Ex.refl H) (.int _)⟩
  · exact q.elim
def dBand : D2 := fun d e Q => match d, e with
  | .int i, .int j => Q (.int (Builtin.bitAnd i j))
  | _, _ => False
theorem m_band : Mono2 dBand := fun d e Q Q' h q => by
  unfold dBand at *; split at q <;> first | exact h _ q | exact ⟨q.1, h _ q.2⟩ | exact q.elim
theorem o_band : OpR X (binaryOp .BitAnd) (r2 (en X) dBand) := by
  intro pins s σ H x y v u Q I rx ry ⟨U, d, e, live, vx, vy, q⟩
  unfold dBand at q
  split at q
  · cases vx.int; cases vy.int
    exact op_and pins s σ H _ _ v u Q I rx ry ⟨_, _, rfl, rfl, q _ H (Ex.refl H) (.int _)⟩
  · exact q.elim
def dNeg : D1 := fun d Q => match d with
  | .int i => Q (.int (-i))
  | _ => False
theorem m_neg : Mono1 dNeg := fun d Q Q' h q => by
  unfold dNeg at *; split at q <;> first | exact h _ q | exact q.elim
theorem o_neg : UnR X (unaryOp .USub) (r1 (en X) dNeg) := by
  intro pins s σ H x v Q I rx ⟨U, d, live, vx, q⟩
  unfold dNeg at q
  split at q
  · cases vx.int
    exact un_neg pins s σ H _ v Q I rx ⟨_, rfl, q _ H (Ex.refl H) (.int _)⟩
  · exact q.elim

/-! ### ==, <, in -/
def dEq : D2 := fun d e Q => (plD d ∧ plD e) ∧ Q (.bool (PyData.eqv d e))
theorem m_eq : Mono2 dEq := fun d e Q Q' h q => ⟨q.1, h _ q.2⟩
theorem o_eq (hu : X.A.units + 64 < cLine) : OpR X (compareOp .Eq) (r2 (en X) dEq) := by
  intro pins s σ H x y v u Q I rx ry ⟨U, d, e, live, vx, vy, ⟨⟨p1, p2⟩, p3, p4⟩, q⟩
  obtain ⟨as, ra⟩ := vx.reads I p1 rx
  obtain ⟨bs, rb⟩ := vy.reads I p3 ry
  exact SeqAt.eq_plain ra rb p1 p3 (by omega) ⟨.bl _, H, I, rfl, q _ H (Ex.refl H) (.bl _)⟩
def dNe : D2 := fun d e Q => (plD d ∧ plD e) ∧ Q (.bool (!PyData.eqv d e))
theorem m_ne : Mono2 dNe := fun d e Q Q' h q => ⟨q.1, h _ q.2⟩
theorem o_ne (hu : X.A.units + 64 < cLine) : OpR X (compareOp .NotEq) (r2 (en X) dNe) := by
  intro pins s σ H x y v u Q I rx ry ⟨U, d, e, live, vx, vy, ⟨⟨p1, p2⟩, p3, p4⟩, q⟩
  obtain ⟨as, ra⟩ := vx.reads I p1 rx
  obtain ⟨bs, rb⟩ := vy.reads I p3 ry
  exact SeqAt.ne_plain ra rb p1 p3 (by omega) ⟨.bl _, H, I, rfl, q _ H (Ex.refl H) (.bl _)⟩
/-- the two can be compared -/
abbrev cmpD (d e : D) : Prop := (plD d ∧ plD e) ∧ PySem.W.alike d e = true ∧ d ≠ .none
def dLt : D2 := fun d e Q => match d, e with
  | .int i, .int j => Q (.bool (decide (i < j)))
  | d, e => cmpD d e ∧ Q (.bool (PySem.W.dataLt d e))
def dGt : D2 := fun d e Q => match d, e with
  | .int i, .int j => Q (.bool (decide (j < i)))
  | d, e => cmpD d e ∧ Q (.bool (PySem.W.dataLt e d))
def dLe : D2 := fun d e Q => match d, e with
  | .int i, .int j => Q (.bool (decide (i ≤ j)))
  | d, e => cmpD d e ∧ Q (.bool (!PySem.W.dataLt e d))
def dGe : D2 := fun d e Q => match d, e with
  | .int i, .int j => Q (.bool (decide (j ≤ i)))
  | d, e => cmpD d e ∧ Q (.bool (!PySem.W.dataLt d e))
theorem m_lt : Mono2 dLt := fun d e Q Q' h q => by
  unfold dLt at *; split at q <;> first | exact h _ q | exact ⟨q.1, h _ q.2⟩ | exact q.elim
theorem m_gt : Mono2 dGt := fun d e Q Q' h q => by
  unfold dGt at *; split at q <;> first | exact h _ q | exact ⟨q.1, h _ q.2⟩ | exact q.elim
theorem m_le : Mono2 dLe := fun d e Q Q' h q => by
  unfold dLe at *; split at q <;> first | exact h _ q | exact ⟨q.1, h _ q.2⟩ | exact q.elim
theorem m_ge : Mono2 dGe := fun d e Q Q' h q => by
  unfold dGe at *; split at q <;> first | exact h _ q | exact ⟨q.1, h _ q.2⟩ | exact q.elim
theorem o_lt (hu : X.A.units + 64 < cLine) : OpR X (compareOp .Lt) (r2 (en X) dLt) := by
  intro pins s σ H x y v u Q I rx ry ⟨U, d, e, live, vx, vy, q⟩
  unfold dLt at q
  split at q
  · cases vx.int; cases vy.int
    exact op_lt pins s σ H _ _ v u Q I rx ry ⟨_, _, rfl, rfl, q _ H (Ex.refl H) (.bl _)⟩
  · obtain ⟨⟨⟨⟨p1, p2⟩, p3, p4⟩, p5, p6⟩, q⟩ := q
    obtain ⟨as, ra⟩ := vx.reads I p1 rx
    obtain ⟨bs, rb⟩ := vy.reads I p3 ry
    exact PySem.W.lt_data ra rb p5 p6 (by omega) ⟨.bl _, H, I, rfl, q _ H (Ex.refl H) (.bl _)⟩
theorem o_gt (hu : X.A.units + 64 < cLine) : OpR X (compareOp .Gt) (r2 (en X) dGt) := by
  intro pins s σ H x y v u Q I rx ry ⟨U, d, e, live, vx, vy, q⟩
  unfold dGt at q
  split at q
  · cases vx.int; cases vy.int
    exact op_gt pins s σ H _ _ v u Q I rx ry ⟨_, _, rfl, rfl, q _ H (Ex.refl H) (.bl _)⟩
  · obtain ⟨⟨⟨⟨p1, p2⟩, p3, p4⟩, p5, p6⟩, q⟩ := q
    obtain ⟨as, ra⟩ := vx.reads I p1 rx
    obtain ⟨bs, rb⟩ := vy.reads I p3 ry
    exact PySem.W.gt_data ra rb p5 p6 (by omega) ⟨.bl _, H, I, rfl, q _ H (Ex.refl H) (.bl _)⟩
theorem o_le (hu : X.A.units + 64 < cLine) : OpR X (compareOp .LtE) (r2 (en X) dLe) := by
  intro pins s σ H x y v u Q I rx ry ⟨U, d, e, live, vx, vy, q⟩
  unfold dLe at q
  split at q
  · cases vx.int; cases vy.int
    exact op_le pins s σ H _ _ v u Q I rx ry ⟨_, _, rfl, rfl, q _ H (Ex.refl H) (.bl _)⟩
  · obtain ⟨⟨⟨⟨p1, p2⟩, p3, p4⟩, p5, p6⟩, q⟩ := q
    obtain ⟨as, ra⟩ := vx.reads I p1 rx
    obtain ⟨bs, rb⟩ := vy.reads I p3 ry
    exact PySem.W.le_data ra rb p5 p6 (by omega) ⟨.bl _, H, I, rfl, q _ H (Ex.refl H) (.bl _)⟩
theorem o_ge (hu : X.A.units + 64 < cLine) : OpR X (compareOp .GtE) (r2 (en X) dGe) := by
  intro pins s σ H x y v u Q I rx ry ⟨U, d, e, live, vx, vy, q⟩
  unfold dGe at q
  split at q
  · cases vx.int; cases vy.int
    exact op_ge pins s σ H _ _ v u Q I rx ry ⟨_, _, rfl, rfl, q _ H (Ex.refl H) (.bl _)⟩
  · obtain ⟨⟨⟨⟨p1, p2⟩, p3, p4⟩, p5, p6⟩, q⟩ := q
    obtain ⟨as, ra⟩ := vx.reads I p1 rx
    obtain ⟨bs, rb⟩ := vy.reads I p3 ry
    exact PySem.W.ge_data ra rb p5 p6 (by omega) ⟨.bl _, H, I, rfl, q _ H (Ex.refl H) (.bl _)⟩

/-! ### is None -/
@[simp] def isNone : D → Bool
  | .none => true
  | _ => false
@[simp] def wIsN (w : WV) : WV := fun Γ Q => w Γ fun d => Q (.bool (isNone d))
@[simp] def wNotN (w : WV) : WV := fun Γ Q => w Γ fun d => Q (.bool (!isNone d))
variable {P : Pn} {a b c e : Expr} {pos pos' : Pos} {U : Addr → Prop}
theorem isN_eq {H : Hp} {v : V} {d : D} (h : VW E H U v d) : decide (v = .non) = isNone d := by
  obtain ⟨ns, r, _⟩ := h
  cases r <;> rfl
theorem notN_eq {H : Hp} {v : V} {d : D} (h : VW E H U v d) : (!decide (v = .non)) = !isNone d := by
  obtain ⟨ns, r, _⟩ := h
  cases r <;> rfl
theorem qf_isN {w : WV} {j pos'} (ha : QV X P a w) : QF X P (.Compare a [.Is] [.Constant .none j pos'] pos) (wIsN w) := pe_imp (pe_cmp (pc_isN ha) rfl) fun σ H Q' ⟨U, fp, Γ, Q, r, q, k⟩ =>
  ⟨U, fp, Γ, _, r, q, fun v H1 d e1 vx q1 => k _ H1 _ e1 (by rw [isN_eq vx]; exact .bl _) q1⟩
theorem qf_notN {w : WV} {j pos'} (ha : QV X P a w) : QF X P (.Compare a [.IsNot] [.Constant .none j pos'] pos) (wNotN w) := pe_imp (pe_cmp (pc_notN ha) rfl) fun σ H Q' ⟨U, fp, Γ, Q, r, q, k⟩ =>
  ⟨U, fp, Γ, _, r, q, fun v H1 d e1 vx q1 => k _ H1 _ e1 (by rw [notN_eq vx]; exact .bl _) q1⟩

/-! ### tests -/
@[simp] def wB (w : WV) : WT := fun Γ Q => w Γ fun d => match d with | .bool b => Q b | _ => False
@[simp] def wBE (w : WE) : WTE := fun Γ Q => w Γ fun d Γ1 => match d with | .bool b => Q b Γ1 | _ => False
theorem qt_val {w : WV} (h : QV X P e w) (he : ∀ whole, isTrue e X.env whole = (do let v ← whole; standAt e.pos; holding [v] (truthy v)) := by intro _; rfl) : QT X P e (wB w) := pt_imp (pt_val h he) fun σ H Q' ⟨U, fp, Γ, Q, r, q, k⟩ =>
  ⟨U, fp, Γ, _, r, q, fun v H1 d e1 vx q1 => by
    cases d with
    | bool b => exact ⟨b, vx.bl, k b H1 e1 q1⟩
    | _ => exact q1.elim⟩
theorem qte_val {w : WE} (h : QE X P e w) (he : ∀ whole, isTrue e X.env whole = (do let v ← whole; standAt e.pos; holding [v] (truthy v)) := by intro _; rfl) : QTE X P e (wBE w) := pt_imp (pt_val h he) fun σ H Q' ⟨U, fp, Γ, Q, r, q, k⟩ =>
  ⟨U, fp, Γ, _, r, q, fun v H1 U1 fp1 Γ1 d s1 r1 vx q1 => by
    cases d with
    | bool b => exact ⟨b, vx.vw.bl, k b H1 U1 fp1 Γ1 s1 r1 q1⟩
    | _ => exact q1.elim⟩
theorem qt_cmp {op : CmpOp} {f : D2} {wa wb : WV} (ho : OpR X (compareOp op) (r2 (en X) f)) (m : Mono2 f) (ha : QV X P a wa) (hb : QV X P b wb) (hm : behindInMarks op b = false) : QT X P (.Compare a [op] [b] pos) (wB (w2 f wa wb)) :=
  pt_imp (pt_cmpR ho ha hb hm) fun σ H Q' ⟨U, fp, Γ, Q, r, q, k⟩ => lift2V m σ H _ ⟨U, fp, Γ, _, r, q, fun v H1 d e1 vx q1 => by
    cases d with
    | bool b => exact ⟨b, vx.vw.bl, k b H1 e1 q1⟩
    | _ => exact q1.elim⟩
theorem qte_cmp {op : CmpOp} {f : D2} {wa wb : WE} (ho : OpR X (compareOp op) (r2 (en X) f)) (m : Mono2 f) (ha : QE X P a wa) (hb : QE X P b wb) (hm : behindInMarks op b = false) : QTE X P (.Compare a [op] [b] pos) (wBE (w2E f wa wb)) :=
  pt_imp (pt_cmpR ho ha hb hm) fun σ H Q' ⟨U, fp, Γ, Q, r, q, k⟩ => lift2E m σ H _ ⟨U, fp, Γ, _, r, q, fun v H1 U1 fp1 Γ1 d s1 r1 vx q1 => by
    cases d with
    | bool b => exact ⟨b, vx.vw.bl, k b H1 U1 fp1 Γ1 s1 r1 q1⟩
    | _ => exact q1.elim⟩
theorem qt_isN {w : WV} {j pos'} (ha : QV X P a w) : QT X P (.Compare a [.Is] [.Constant .none j pos'] pos) (wB (wIsN w)) := pt_imp (pt_cmp (pc_isN ha) rfl) fun σ H Q' ⟨U, fp, Γ, Q, r, q, k⟩ =>
  ⟨U, fp, Γ, _, r, q, fun v H1 d e1 vx q1 => ⟨_, rfl, by rw [isN_eq vx]; exact k _ H1 e1 q1⟩⟩
theorem qt_notN {w : WV} {j pos'} (ha : QV X P a w) : QT X P (.Compare a [.IsNot] [.Constant .none j pos'] pos) (wB (wNotN w)) := pt_imp (pt_cmp (pc_notN ha) rfl) fun σ H Q' ⟨U, fp, Γ, Q, r, q, k⟩ =>
  ⟨U, fp, Γ, _, r, q, fun v H1 d e1 vx q1 => ⟨_, rfl, by rw [notN_eq vx]; exact k _ H1 e1 q1⟩⟩
@[simp] def wAnd (w v : WT) : WT := fun Γ Q => w Γ fun b => (b = true → v Γ Q) ∧ (b = false → Q false)
@[simp] def wOr (w v : WT) : WT := fun Γ Q => w Γ fun b => (b = true → Q true) ∧ (b = false → v Γ Q)
@[simp] def wNot (w : WT) : WT := fun Γ Q => w Γ fun b => Q (!b)
@[simp] def wAndE (w v : WTE) : WTE := fun Γ Q => w Γ fun b Γ1 => (b = true → v Γ1 Q) ∧ (b = false → Q false Γ1)
@[simp] def wOrE (w v : WTE) : WTE := fun Γ Q => w Γ fun b Γ1 => (b = true → Q true Γ1) ∧ (b = false → v Γ1 Q)
@[simp] def wNotE (w : WTE) : WTE := fun Γ Q => w Γ fun b Γ1 => Q (!b) Γ1
abbrev QW (X : Cx) (P : Pn) (e : Expr) (w : WT) : Prop := PW X e (jT (en X) P w)
abbrev QWE (X : Cx) (P : Pn) (e : Expr) (w : WTE) : Prop := PW X e (jTE (en X) P w)
theorem pw_imp {t t' : TT} (h : PW X e t) (f : ∀ σ H Q, t' σ H Q → t σ H Q) : PW X e t' := ⟨fun wh pins s σ H Q I q => h.run wh pins s σ H Q I (f σ H Q q)⟩
theorem ent_and {w v : WT} : ∀ σ H Q, jT E P (wAnd w v) σ H Q → tAnd (jT E P w) (jT E P v) σ H Q := fun σ H Q' ⟨U, fp, Γ, Q, r, q, k⟩ => ⟨U, fp, Γ, _, r, q, fun b H1 e1 q1 => by
  cases b with
  | true => exact ⟨U, fp, Γ, _, r.ex e1, q1.1 rfl, fun b H2 e2 q2 => k b H2 (e1.trans e2) q2⟩
  | false => exact k false H1 e1 (q1.2 rfl)⟩
theorem ent_or {w v : WT} : ∀ σ H Q, jT E P (wOr w v) σ H Q → tOr (jT E P w) (jT E P v) σ H Q := fun σ H Q' ⟨U, fp, Γ, Q, r, q, k⟩ => ⟨U, fp, Γ, _, r, q, fun b H1 e1 q1 => by
  cases b with
  | true => exact k true H1 e1 (q1.1 rfl)
  | false => exact ⟨U, fp, Γ, _, r.ex e1, q1.2 rfl, fun b H2 e2 q2 => k b H2 (e1.trans e2) q2⟩⟩
theorem ent_andE {w v : WTE} : ∀ σ H Q, jTE E P (wAndE w v) σ H Q → tAnd (jTE E P w) (jTE E P v) σ H Q := fun σ H Q' ⟨U, fp, Γ, Q, r, q, k⟩ => ⟨U, fp, Γ, _, r, q, fun b H1 U1 fp1 Γ1 s1 r1 q1 => by
  cases b with
  | true => exact ⟨U1, fp1, Γ1, _, r1, q1.1 rfl, fun b H2 U2 fp2 Γ2 s2 r2 q2 => k b H2 U2 fp2 Γ2 (r.trans s1 s2) r2 q2⟩
  | false => exact k false H1 U1 fp1 Γ1 s1 r1 (q1.2 rfl)⟩
theorem ent_orE {w v : WTE} : ∀ σ H Q, jTE E P (wOrE w v) σ H Q → tOr (jTE E P w) (jTE E P v) σ H Q := fun σ H Q' ⟨U, fp, Γ, Q, r, q, k⟩ => ⟨U, fp, Γ, _, r, q, fun b H1 U1 fp1 Γ1 s1 r1 q1 => by
  cases b with
  | true => exact k true H1 U1 fp1 Γ1 s1 r1 (q1.1 rfl)
  | false => exact ⟨U1, fp1, Γ1, _, r1, q1.2 rfl, fun b H2 U2 fp2 Γ2 s2 r2 q2 => k b H2 U2 fp2 Γ2 (r.trans s1 s2) r2 q2⟩⟩
variable {rest : List Expr}
theorem qw_and1 {w : WT} (h : QT X P a w) : QW X P (.BoolOp .And [a] pos) w := pw_and1 h
theorem qw_or1 {w : WT} (h : QT X P a w) : QW X P (.BoolOp .Or [a] pos) w := pw_or1 h
theorem qw_and {w v : WT} (h : QT X P a w) (h2 : QW X P (.BoolOp .And (b :: rest) pos) v) : QW X P (.BoolOp .And (a :: b :: rest) pos) (wAnd w v) := pw_imp (pw_and h h2) ent_and
theorem qw_or {w v : WT} (h : QT X P a w) (h2 : QW X P (.BoolOp .Or (b :: rest) pos) v) : QW X P (.BoolOp .Or (a :: b :: rest) pos) (wOr w v) := pw_imp (pw_or h h2) ent_or
theorem qt_w {w : WT} (h : QW X P e w) : QT X P e w := h.pt
theorem qwe_and1 {w : WTE} (h : QTE X P a w) : QWE X P (.BoolOp .And [a] pos) w := pw_and1 h
theorem qwe_or1 {w : WTE} (h : QTE X P a w) : QWE X P (.BoolOp .Or [a] pos) w := pw_or1 h
theorem qwe_and {w v : WTE} (h : QTE X P a w) (h2 : QWE X P (.BoolOp .And (b :: rest) pos) v) : QWE X P (.BoolOp .And (a :: b :: rest) pos) (wAndE w v) := pw_imp (pw_and h h2) ent_andE
theorem qwe_or {w v : WTE} (h : QTE X P a w) (h2 : QWE X P (.BoolOp .Or (b :: rest) pos) v) : QWE X P (.BoolOp .Or (a :: b :: rest) pos) (wOrE w v) := pw_imp (pw_or h h2) ent_orE
theorem qte_w {w : WTE} (h : QWE X P e w) : QTE X P e w := h.pt
theorem qt_not {w : WT} (h : QT X P a w) : QT X P (.UnaryOp .Not a pos) (wNot w) := pt_imp (pt_not h) fun σ H Q' ⟨U, fp, Γ, Q, r, q, k⟩ => ⟨U, fp, Γ, _, r, q, fun b H1 e1 q1 => k _ H1 e1 q1⟩
theorem qte_not {w : WTE} (h : QTE X P a w) : QTE X P (.UnaryOp .Not a pos) (wNotE w) := pt_imp (pt_not h) fun σ H Q' ⟨U, fp, Γ, Q, r, q, k⟩ => ⟨U, fp, Γ, _, r, q, fun b H1 U1 fp1 Γ1 s1 r1 q1 => k _ H1 U1 fp1 Γ1 s1 r1 q1⟩
/-! ### and, or, not as values (bools) -/
@[simp] def wAndV (wa wb : WV) : WV := fun Γ Q => wa Γ fun d => match d with | .bool b => (b = true → wb Γ Q) ∧ (b = false → Q (.bool false)) | _ => False
@[simp] def wOrV (wa wb : WV) : WV := fun Γ Q => wa Γ fun d => match d with | .bool b => (b = true → Q (.bool true)) ∧ (b = false → wb Γ Q) | _ => False
@[simp] def wNotV (wa : WV) : WV := fun Γ Q => wa Γ fun d => match d with | .bool b => Q (.bool (!b)) | _ => False
theorem qf_one {op} {w : WV} (h : QF X P a w) : QF X P (.BoolOp op [a] pos) w := pe_one h
theorem qf_and {wa wb : WV} (ha : QF X P a wa) (hb : QF X P (.BoolOp .And (b :: rest) pos) wb) : QF X P (.BoolOp .And (a :: b :: rest) pos) (wAndV wa wb) := pe_imp (pe_and ha hb) fun σ H Q' ⟨U, fp, Γ, Q, r, q, k⟩ =>
  ⟨U, fp, Γ, _, r, q, fun v H1 d e1 vx q1 => by
    cases d with
    | bool c =>
      refine ⟨c, vx.vw.bl, ?_⟩
      cases c with
      | true => exact ⟨U, fp, Γ, _, r.ex e1, q1.1 rfl, fun v H2 d e2 dr q2 => k v H2 d (e1.trans e2) dr q2⟩
      | false => exact k _ H1 _ e1 (.bl _) (q1.2 rfl)
    | _ => exact q1.elim⟩
theorem qf_or {wa wb : WV} (ha : QF X P a wa) (hb : QF X P (.BoolOp .Or (b :: rest) pos) wb) : QF X P (.BoolOp .Or (a :: b :: rest) pos) (wOrV wa wb) := pe_imp (pe_or ha hb) fun σ H Q' ⟨U, fp, Γ, Q, r, q, k⟩ =>
  ⟨U, fp, Γ, _, r, q, fun v H1 d e1 vx q1 => by
    cases d with
    | bool c =>
      refine ⟨c, vx.vw.bl, ?_⟩
      cases c with
      | false => exact ⟨U, fp, Γ, _, r.ex e1, q1.2 rfl, fun v H2 d e2 dr q2 => k v H2 d (e1.trans e2) dr q2⟩
      | true => exact k _ H1 _ e1 (.bl _) (q1.1 rfl)
    | _ => exact q1.elim⟩
theorem qf_not {wa : WV} (ha : QF X P a wa) : QF X P (.UnaryOp .Not a pos) (wNotV wa) := pe_imp (pe_not ha) fun σ H Q' ⟨U, fp, Γ, Q, r, q, k⟩ =>
  ⟨U, fp, Γ, _, r, q, fun v H1 d e1 vx q1 => by
    cases d with
    | bool c => exact ⟨c, vx.vw.bl, k _ H1 _ e1 (.bl _) q1⟩
    | _ => exact q1.elim⟩
/-! ### a if t else b -/
@[simp] def wIf (t : WT) (wa wb : WV) : WV := fun Γ Q => t Γ fun b => (b = true → wa Γ Q) ∧ (b = false → wb Γ Q)
@[simp] def wIfE (t : WTE) (wa wb : WE) : WE := fun Γ Q => t Γ fun b Γ1 => (b = true → wa Γ1 Q) ∧ (b = false → wb Γ1 Q)
theorem qf_if {t : WT} {wa wb : WV} (hc : QT X P c t) (ha : QF X P a wa) (hb : QF X P b wb) : QF X P (.IfExp c a b pos) (wIf t wa wb) := pe_imp (pe_ifExp hc ha hb) fun σ H Q' ⟨U, fp, Γ, Q, r, q, k⟩ => ⟨U, fp, Γ, _, r, q, fun c H1 e1 q1 => by
  cases c with
  | true => exact ⟨U, fp, Γ, _, r.ex e1, q1.1 rfl, fun v H2 d e2 dr q2 => k v H2 d (e1.trans e2) dr q2⟩
  | false => exact ⟨U, fp, Γ, _, r.ex e1, q1.2 rfl, fun v H2 d e2 dr q2 => k v H2 d (e1.trans e2) dr q2⟩⟩
theorem qv_if {t : WT} {wa wb : WV} (hc : QT X P c t) (ha : QV X P a wa) (hb : QV X P b wb) : QV X P (.IfExp c a b pos) (wIf t wa wb) := pe_imp (pe_ifExp hc ha hb) fun σ H Q' ⟨U, fp, Γ, Q, r, q, k⟩ => ⟨U, fp, Γ, _, r, q, fun c H1 e1 q1 => by
  cases c with
  | true => exact ⟨U, fp, Γ, _, r.ex e1, q1.1 rfl, fun v H2 d e2 dr q2 => k v H2 d (e1.trans e2) dr q2⟩
  | false => exact ⟨U, fp, Γ, _, r.ex e1, q1.2 rfl, fun v H2 d e2 dr q2 => k v H2 d (e1.trans e2) dr q2⟩⟩
theorem qe_if {t : WTE} {wa wb : WE} (hc : QTE X P c t) (ha : QE X P a wa) (hb : QE X P b wb) : QE X P (.IfExp c a b pos) (wIfE t wa wb) := pe_imp (pe_ifExp hc ha hb) fun σ H Q' ⟨U, fp, Γ, Q, r, q, k⟩ => ⟨U, fp, Γ, _, r, q, fun c H1 U1 fp1 Γ1 s1 r1 q1 => by
  cases c with
  | true => exact ⟨U1, fp1, Γ1, _, r1, q1.1 rfl, fun v H2 U2 fp2 Γ2 d s2 r2 dr q2 => k v H2 U2 fp2 Γ2 d (r.trans s1 s2) r2 dr q2⟩
  | false => exact ⟨U1, fp1, Γ1, _, r1, q1.2 rfl, fun v H2 U2 fp2 Γ2 d s2 r2 dr q2 => k v H2 U2 fp2 Γ2 d (r.trans s1 s2) r2 dr q2⟩⟩
end
end L3
set_option Elab.async false
set_option linter.all false
set_option maxRecDepth 100000
namespace L3
open PySem PySem.Spec L2

/-! ## dicts by data -/
def lookD {β : Type} (ds : List (D × β)) (k : D) : Option β := (ds.find? fun p => decide (p.1 = k)).map (·.2)
def putD {β : Type} (ds : List (D × β)) (k : D) (v : β) : List (D × β) :=
  if (ds.any fun p => decide (p.1 = k)) = true then ds.map fun p => if p.1 = k then (p.1, v) else p else ds ++ [(k, v)]
def dropD {β : Type} (ds : List (D × β)) (k : D) : List (D × β) := ds.filter fun p => decide (p.1 ≠ k)
def atomD : D → Bool
  | .int _ => true
  | .str _ => true
  | _ => false
def isTup : D → Bool
  | .tuple _ => true
  | _ => false
mutual
def toNK : D → Option NestedKey
  | .none => some .none
  | .int i => some (.num i)
  | .str x => some (.text x)
  | .tuple ds => (toNKs ds).map .tup
  | .bool _ => none
  | .list _ => none
  | .dict _ => none
def toNKs : List D → Option (List NestedKey)
  | [] => some []
  | d :: ds => (toNK d).bind fun k => (toNKs ds).map (k :: ·)
end
/-- a key that may be asked of this dict -/
def keyOk {β : Type} (ds : List (D × β)) (k : D) : Bool := (atomD k || (isTup k && (toNK k).isSome && decide (k.depth ≤ 8))) && ds.all fun p => atomD p.1 == atomD k

theorem lookD_nil {β : Type} (k : D) : lookD ([] : List (D × β)) k = none := rfl
theorem lookD_cons {β : Type} (p : D × β) (ds : List (D × β)) (k : D) : lookD (p :: ds) k = if p.1 = k then some p.2 else lookD ds k := by
  unfold lookD
  by_cases h : p.1 = k <;> simp [List.find?_cons, h]

theorem kD_inj {a b : Key} (e : kD a = kD b) : a = b := by
  cases a <;> cases b <;> simp [kD] at e <;> rw [e]
theorem atom_kD (k : Key) : atomD (kD k) = true := by cases k <;> rfl
theorem kD_of {d : D} (h : atomD d = true) : ∃ k, d = kD k := by
  cases d with
  | int i => exact ⟨.inl i, rfl⟩
  | str x => exact ⟨.inr x, rfl⟩
  | _ => cases h
mutual
theorem toNK_data : ∀ (k : NestedKey), toNK k.data = some k
  | .none => by simp [NestedKey.data, toNK]
  | .num i => by simp [NestedKey.data, toNK]
  | .text x => by simp [NestedKey.data, toNK]
  | .tup ks => by rw [NestedKey.data, toNK, toNKs_datas ks]; rfl
theorem toNKs_datas : ∀ (ks : List NestedKey), toNKs (NestedKey.datas ks) = some ks
  | [] => by simp [NestedKey.datas, toNKs]
  | k :: ks => by rw [NestedKey.datas, toNKs, toNK_data k, toNKs_datas ks]; rfl
end
mutual
theorem data_toNK : ∀ (d : D) (k : NestedKey), toNK d = some k → k.data = d
  | .none, k, h => by simp [toNK] at h; subst h; rfl
  | .int i, k, h => by simp [toNK] at h; subst h; rfl
  | .str x, k, h => by simp [toNK] at h; subst h; rfl
  | .tuple ds, k, h => by
    rw [toNK] at h
    obtain ⟨ks, e, rfl⟩ := Option.map_eq_some_iff.mp h
    rw [NestedKey.data, datas_toNKs ds ks e]
  | .bool _, _, h => by simp [toNK] at h
  | .list _, _, h => by simp [toNK] at h
  | .dict _, _, h => by simp [toNK] at h
theorem datas_toNKs : ∀ (ds : List D) (ks : List NestedKey), toNKs ds = some ks → NestedKey.datas ks = ds
  | [], ks, h => by simp [toNKs] at h; subst h; rfl
  | d :: ds, ks, h => by
    rw [toNKs] at h
    obtain ⟨k, e1, h⟩ := Option.bind_eq_some_iff.mp h
    obtain ⟨r, e2, rfl⟩ := Option.map_eq_some_iff.mp h
    rw [NestedKey.datas, data_toNK d k e1, datas_toNKs ds r e2]
end
theorem data_inj {a b : NestedKey} (e : a.data = b.data) : a = b := by
  have h := toNK_data a
  rw [e, toNK_data b] at h
  exact (Option.some.inj h).symm
mutual
theorem data_depth : ∀ k : NestedKey, k.data.depth = k.depth
  | .none => by simp [NestedKey.data, PyData.depth, NestedKey.depth]
  | .num i => by simp [NestedKey.data, PyData.depth, NestedKey.depth]
  | .text x => by simp [NestedKey.data, PyData.depth, NestedKey.depth]
  | .tup ks => by rw [NestedKey.data, PyData.depth, NestedKey.depth, datas_depth ks]
theorem datas_depth : ∀ ks : List NestedKey, PyData.depthAll (NestedKey.datas ks) = NestedKey.depthAll ks
  | [] => by simp [NestedKey.datas, PyData.depthAll, NestedKey.depthAll]
  | k :: ks => by rw [NestedKey.datas, PyData.depthAll, NestedKey.depthAll, data_depth k, datas_depth ks]
end
theorem atom_data {k : NestedKey} (h : isTup k.data = true) : atomD k.data = false := by cases k <;> simp [NestedKey.data, isTup, atomD] at *
section
variable {X : Cx}
mutual
theorem RD.nested {pins : List (Addr × Obj)} {σ : L2.St} {H : Hp} {s : Shared} (I : Inv X pins σ H s) : ∀ (k : NestedKey) (v : V) (u : Value) (ns : List Addr), RD (en X) H v k.data ns → RelV v u → NestedIs s.heap k u
  | .none, _, _, _, h, r => by simp only [NestedKey.data] at h; cases h; cases r; exact .none
  | .num i, _, _, _, h, r => by simp only [NestedKey.data] at h; cases h; obtain ⟨t, rfl⟩ := r; exact .int i t
  | .text x, _, _, _, h, r => by simp only [NestedKey.data] at h; cases h; obtain ⟨t, rfl⟩ := r; exact .text x t
  | .tup ks, _, _, _, h, r => by
    simp only [NestedKey.data] at h
    cases h with
    | tup hs ha =>
      cases r
      obtain ⟨its, rv, ⟨o, ho, hc, n, hd⟩, _⟩ := I.tuple hs.sq
      exact .tup ho hc hd (RD.nesteds I ks _ _ _ ha (by simpa using rv))
theorem RD.nesteds {pins : List (Addr × Obj)} {σ : L2.St} {H : Hp} {s : Shared} (I : Inv X pins σ H s) : ∀ (ks : List NestedKey) (vs : List V) (us : List Value) (ns : List Addr), RDs (en X) H vs (NestedKey.datas ks) ns → Vals vs us → NestedAll s.heap ks us
  | [], _, _, _, h, r => by simp only [NestedKey.datas] at h; cases h; cases r; exact .nil
  | k :: ks, _, _, _, h, r => by
    simp only [NestedKey.datas] at h
    cases h with
    | cons h1 h2 =>
      cases r with
      | cons r1 r2 => exact .cons (RD.nested I k _ _ _ h1 r1) (RD.nesteds I ks _ _ _ h2 r2)
end

/-- a dict of ints and texts, of tuples: in the model's own words -/
structure AtomAt (X : Cx) (H : Hp) (s : Shared) (a : Addr) (kvs : List (Key × V)) (us : List (Key × Value)) : Prop where
  kv : KV kvs us
  dd : s.heap.DictOf (mixKind X.prog X.w) a us
  le : us.length ≤ sizeLine
  sm : (a == sysModules) = false
abbrev NE (es : List (NestedKey × Addr × V)) (us : List (NestedKey × Addr × Value)) : Prop := Paired (fun p q => p.1 = q.1 ∧ p.2.1 = q.2.1 ∧ RelV p.2.2 q.2.2) es us
structure NestAt (X : Cx) (H : Hp) (s : Shared) (a : Addr) (es : List (NestedKey × Addr × V)) (us : List (NestedKey × Addr × Value)) : Prop where
  kv : NE es us
  dd : s.heap.DictOfH (nestedKind X.prog X.w) a us
  le : us.length ≤ sizeLine
  sm : (a == sysModules) = false
variable {pins : List (Addr × Obj)} {σ : L2.St} {H : Hp} {s : Shared} {a : Addr} {U : Addr → Prop}
theorem atomAt (I : Inv X pins σ H s) {kvs : List (Key × V)} (e : H a = some (.dK kvs)) : ∃ us, AtomAt X H s a kvs us := by
  obtain ⟨z, hd, us, rel, dd⟩ := dk_of I.hok e
  exact ⟨us, rel, dd, by rw [← rel.length]; exact z, hd⟩
theorem NE.is {es : List (NestedKey × Addr × V)} {us : List (NestedKey × Addr × Value)} (r : NE es us) {f : NestedKey → Addr → Prop} (h : ∀ p ∈ es, f p.1 p.2.1) : ∀ q ∈ us, f q.1 q.2.1 := by
  induction r with
  | nil => exact fun _ m => nomatch m
  | @cons p q ps qs r t ih =>
    intro x m
    rcases List.mem_cons.mp m with rfl | m
    · rw [← r.1, ← r.2.1]; exact h _ List.mem_cons_self
    · exact ih (fun p m => h p (List.mem_cons_of_mem _ m)) x m
theorem RDs.mem {E : En} : ∀ {vs : List V} {ds : List D} {ns : List Addr}, RDs E H vs ds ns → ∀ {i : Nat} {v : V} {d : D}, vs[i]? = some v → ds[i]? = some d → ∃ ms, RD E H v d ms
  | _, _, _, .nil, _, _, _, e, _ => by simp at e
  | _, _, _, .cons r t, 0, v, d, e1, e2 => by simp at e1 e2; subst e1 e2; exact ⟨_, r⟩
  | _, _, _, .cons r t, i + 1, v, d, e1, e2 => RDs.mem t (i := i) (by simpa using e1) (by simpa using e2)
theorem nest_keys (I : Inv X pins σ H s) {es : List (NestedKey × Addr × V)} (dp : ∀ e ∈ es, e.1.depth ≤ 8) (ks : DRs (en X) H U (es.map fun p => .ref p.2.1) (es.map fun p => NestedKey.data p.1)) :
    ∀ p ∈ es, (nestedKind X.prog X.w).is s.heap p.1 p.2.1 := fun p m => by
  obtain ⟨i, hi⟩ := List.getElem?_of_mem m
  obtain ⟨ns, r, _⟩ := ks.rd
  obtain ⟨ms, q⟩ := r.mem (i := i) (v := .ref p.2.1) (d := NestedKey.data p.1) (by rw [List.getElem?_map, hi]; rfl) (by rw [List.getElem?_map, hi]; rfl)
  exact ⟨RD.nested I p.1 _ _ _ q rfl, dp p m⟩
theorem nestAt (I : Inv X pins σ H s) {es : List (NestedKey × Addr × V)} (e : H a = some (NdO (en X) a es)) (dp : ∀ e ∈ es, e.1.depth ≤ 8) (ks : DRs (en X) H U (es.map fun p => .ref p.2.1) (es.map fun p => NestedKey.data p.1)) : ∃ us, NestAt X H s a es us := by
  obtain ⟨⟨sm, le, us, rel, o, en, ep, h1, h2, h3, h4, h5⟩, _, _⟩ := I.hok a _ e
  refine ⟨us, rel, ⟨o, en, ep, h1, h2, h3, h4, ?_, h5⟩, by rw [← Paired.length rel]; exact le, sm⟩
  exact NE.is rel (f := fun k b => (nestedKind X.prog X.w).is s.heap k b) (nest_keys I dp ks)
theorem atom_nest (h : AtomAt X H s a [] us) : NestAt X H s a [] [] := by
  obtain ⟨kv, ⟨o, es, ep, h1, h2, h3, _, hp, _⟩, le, sm⟩ := h
  cases kv
  have e : es.toList = [] := by
    generalize es.toList = l at hp
    cases hp
    rfl
  refine ⟨.nil, ⟨o, es, ep, h1, h2, h3, by rw [e]; rfl, ?_, List.nodup_nil⟩, Nat.zero_le _, sm⟩
  intro x m
  exact absurd m List.not_mem_nil
theorem nest_atom (h : NestAt X H s a [] us) : AtomAt X H s a [] [] := by
  obtain ⟨kv, ⟨o, es, ep, h1, h2, h3, h4, _, _⟩, le, sm⟩ := h
  cases kv
  have e : es = #[] := by
    rw [List.map_nil] at h4
    exact Array.toList_eq_nil_iff.mp h4
  subst e
  exact ⟨.nil, ⟨o, #[], ep, h1, h2, h3, fun e m => by simp at m, .nil, List.nodup_nil⟩, Nat.zero_le _, sm⟩
theorem KV.nil_of {us : List (Key × Value)} (r : KV [] us) : us = [] := by cases r; rfl
/-- the key at hand -/
theorem key_is (I : Inv X pins σ H s) {y : V} {u : Value} {k : D} {nk : NestedKey} (h : VW (en X) H U y k) (t : isTup k = true) (e : toNK k = some nk) (dp : k.depth ≤ 8) (r : RelV y u) : ∃ b, y = .ref b ∧ u = .ref b ∧ (nestedKind X.prog X.w).is s.heap nk b := by
  have ek := data_toNK _ _ e
  subst ek
  obtain ⟨ns, q, _⟩ := h
  cases nk with
  | tup ks =>
    have q' := q
    simp only [NestedKey.data] at q'
    cases q' with
    | tup hs ha =>
      cases r
      exact ⟨_, rfl, rfl, RD.nested I _ _ _ _ q rfl, by rw [data_depth] at dp; exact dp⟩
  | _ => simp [NestedKey.data, isTup] at t
theorem vw_kV {y : V} {k : Key} (h : VW (en X) H U y (kD k)) : y = kV k := by
  cases k with
  | inl i => exact h.int
  | inr x => exact h.str

/-! ### looking up -/
theorem lookK {E : En} {kvs : List (Key × V)} {vs : List D} (r : DRs E H U (kvs.map (·.2)) vs) (k : Key) :
    (∃ v d, valV kvs k = some v ∧ lookD ((kvs.map fun p => kD p.1).zip vs) (kD k) = some d ∧ DR E H U v d) ∨ (valV kvs k = none ∧ lookD ((kvs.map fun p => kD p.1).zip vs) (kD k) = none) := by
  induction kvs generalizing vs with
  | nil => exact .inr ⟨rfl, by simp [lookD]⟩
  | cons p kvs ih =>
    cases r with
    | @cons v _ d ds r t =>
      show (∃ v d', valV (p :: kvs) k = some v ∧ lookD ((kD p.1, d) :: ((kvs.map fun p => kD p.1).zip ds)) (kD k) = some d' ∧ DR E H U v d') ∨ (valV (p :: kvs) k = none ∧ lookD ((kD p.1, d) :: ((kvs.map fun p => kD p.1).zip ds)) (kD k) = none)
      rw [lookD_cons]
      by_cases e : p.1 = k
      · rw [valV_pos e, if_pos (by rw [e])]
        exact .inl ⟨_, _, rfl, rfl, r⟩
      · rw [valV_neg e, if_neg (fun q => e (kD_inj q))]
        exact ih t
theorem atKey_cons {K : Type} [DecidableEq K] (x : K × Addr × Value) (xs : List (K × Addr × Value)) (k : K) : atKey (x :: xs) k = if x.1 = k then some x.2 else atKey xs k := by
  unfold atKey
  by_cases h : x.1 = k <;> simp [List.find?_cons, h]
theorem lookN {E : En} {es : List (NestedKey × Addr × V)} {us : List (NestedKey × Addr × Value)} (ne : NE es us) : ∀ {vs : List D} (r : DRs E H U (es.map (·.2.2)) vs) (k : NestedKey),
    (∃ p v d, atKey us k = some p ∧ RelV v p.2 ∧ lookD ((es.map fun p => NestedKey.data p.1).zip vs) k.data = some d ∧ DR E H U v d) ∨ (atKey us k = none ∧ lookD ((es.map fun p => NestedKey.data p.1).zip vs) k.data = none) := by
  induction ne with
  | nil => exact fun _ _ => .inr ⟨rfl, by simp [lookD]⟩
  | @cons p q es us h t ih =>
    intro vs r k
    cases r with
    | @cons v _ d ds r t2 =>
      show (∃ pp v d', atKey (q :: us) k = some pp ∧ RelV v pp.2 ∧ lookD ((p.1.data, d) :: ((es.map fun p => NestedKey.data p.1).zip ds)) k.data = some d' ∧ DR E H U v d') ∨ (atKey (q :: us) k = none ∧ lookD ((p.1.data, d) :: ((es.map fun p => NestedKey.data p.1).zip ds)) k.data = none)
      rw [lookD_cons, atKey_cons]
      by_cases e : p.1 = k
      · rw [if_pos (h.1.symm.trans e), if_pos (by rw [e])]
        exact .inl ⟨_, _, _, rfl, h.2.2, rfl, r⟩
      · rw [if_neg (fun z => e (h.1.trans z)), if_neg (fun z => e (data_inj z))]
        exact ih t2 k
end
end L3
set_option Elab.async false
set_option linter.all false
set_option maxRecDepth 100000
namespace L3
open PySem PySem.Spec L2

section
variable {X : Cx} {pins : List (Addr × Obj)} {σ : L2.St} {H : Hp} {s : Shared} {U : Addr → Prop}
theorem DRs.nil_iff {E : En} {vs : List V} {ds : List D} (r : DRs E H U vs ds) : vs = [] ↔ ds = [] := by
  cases r <;> simp
/-- a dict and a key: in one of the two kinds -/
inductive DV (X : Cx) (H : Hp) (U : Addr → Prop) (s : Shared) (v : V) (ds : List (D × D)) (y : V) (k : D) (u : Value) : Prop
  | atom {a : Addr} {key : Key} {kvs : List (Key × V)} {us : List (Key × Value)} {vs : List D} : v = .ref a → k = kD key → y = kV key → AtomAt X H s a kvs us → ds = (kvs.map fun p => kD p.1).zip vs → DRs (en X) H U (kvs.map (·.2)) vs → DV X H U s v ds y k u
  | nest {a b : Addr} {nk : NestedKey} {es : List (NestedKey × Addr × V)} {us : List (NestedKey × Addr × Value)} {vs : List D} : v = .ref a → k = nk.data → y = .ref b → u = .ref b → (nestedKind X.prog X.w).is s.heap nk b → NestAt X H s a es us →
      ds = (es.map fun p => NestedKey.data p.1).zip vs → DRs (en X) H U (es.map (·.2.2)) vs → DV X H U s v ds y k u
theorem zip_all {α β : Type} {xs : List α} {ys : List β} (h : xs.length = ys.length) {f : α → Bool} (hf : ((xs.zip ys).all fun p => f p.1) = true) : xs.all f = true := by
  induction xs generalizing ys with
  | nil => rfl
  | cons x xs ih =>
    cases ys with
    | nil => cases h
    | cons y ys =>
      simp only [List.zip_cons_cons, List.all_cons, Bool.and_eq_true] at hf ⊢
      exact ⟨hf.1, ih (by simpa using h) hf.2⟩
theorem dview (I : Inv X pins σ H s) {v y : V} {ds : List (D × D)} {k : D} {u : Value} (vx : VW (en X) H U v (.dict ds)) (vy : VW (en X) H U y k) (ok : keyOk ds k = true) (ry : RelV y u) : DV X H U s v ds y k u := by
  unfold keyOk at ok
  rw [Bool.and_eq_true] at ok
  obtain ⟨ok, same⟩ := ok
  rcases vx.dict with ⟨a, kvs, vs, rfl, ha, rfl, dr⟩ | ⟨a, es, vs, rfl, ha, dp, rfl, dk, dr⟩
  · obtain ⟨us, at1⟩ := atomAt I ha
    have hl : (kvs.map fun p => kD p.1).length = vs.length := by rw [List.length_map, ← dr.length, List.length_map]
    have all := zip_all hl (f := fun x => atomD x == atomD k) same
    cases hk : atomD k with
    | true =>
      obtain ⟨key, rfl⟩ := kD_of hk
      exact .atom rfl rfl (vw_kV vy) at1 rfl dr
    | false =>
      rw [hk] at ok all
      simp only [Bool.false_or, Bool.and_eq_true, decide_eq_true_eq] at ok
      obtain ⟨⟨t, tn⟩, dpk⟩ := ok
      obtain ⟨nk, e⟩ := Option.isSome_iff_exists.mp tn
      obtain ⟨b, rfl, rfl, ki⟩ := key_is I vy t e dpk ry
      have e0 : kvs = [] := by
        cases kvs with
        | nil => rfl
        | cons p r =>
          simp only [List.map_cons, List.all_cons, atom_kD, Bool.and_eq_true] at all
          exact nomatch all.1
      subst e0
      have e1 : vs = [] := dr.nil_iff.mp rfl
      subst e1
      exact .nest rfl (data_toNK _ _ e).symm rfl rfl ki (atom_nest at1) (by rfl) .nil
  · obtain ⟨us, at1⟩ := nestAt I ha dp dk
    have hl : (es.map fun p => NestedKey.data p.1).length = vs.length := by rw [List.length_map, ← dr.length, List.length_map]
    have all := zip_all hl (f := fun x => atomD x == atomD k) same
    cases hk : atomD k with
    | false =>
      rw [hk] at ok
      simp only [Bool.false_or, Bool.and_eq_true, decide_eq_true_eq] at ok
      obtain ⟨⟨t, tn⟩, dpk⟩ := ok
      obtain ⟨nk, e⟩ := Option.isSome_iff_exists.mp tn
      obtain ⟨b, rfl, rfl, ki⟩ := key_is I vy t e dpk ry
      exact .nest rfl (data_toNK _ _ e).symm rfl rfl ki at1 rfl dr
    | true =>
      obtain ⟨key, rfl⟩ := kD_of hk
      have e0 : es = [] := by
        cases es with
        | nil => rfl
        | cons p r =>
          have hx : atomD (NestedKey.data p.1) = false := by
            cases dk with
            | cons q _ =>
              obtain ⟨ns, q, _⟩ := q
              dsimp only at q
              cases hd : NestedKey.data p.1 <;> rw [hd] at q <;> first | rfl | cases q
          rw [hk] at all
          simp only [List.map_cons, List.all_cons, hx, Bool.and_eq_true] at all
          exact nomatch all.1
      subst e0
      have e1 : vs = [] := dr.nil_iff.mp rfl
      subst e1
      exact .atom rfl rfl (vw_kV vy) (nest_atom at1) (by rfl) .nil

/-! ### a[b] -/
def ofO {α : Type} (o : Option α) (Q : α → Prop) : Prop := match o with
  | some a => Q a
  | none => False
theorem ofO_mono {α : Type} {o : Option α} {Q Q' : α → Prop} (h : ∀ z, Q z → Q' z) (q : ofO o Q) : ofO o Q' := by
  cases o with
  | some a => exact h a q
  | none => exact q
theorem ofO_some {α : Type} {o : Option α} {Q : α → Prop} (q : ofO o Q) : ∃ a, o = some a ∧ Q a := by
  cases o with
  | some a => exact ⟨a, rfl, q⟩
  | none => exact q.elim
theorem ofO_intro {α : Type} {o : Option α} {Q : α → Prop} {a : α} (e : o = some a) (q : Q a) : ofO o Q := by rw [e]; exact q
def dIdx : D2 := fun d e Q => match d, e with
  | .list xs, .int i => ofO (atI xs i) Q
  | .tuple xs, .int i => ofO (atI xs i) Q
  | .str x, .int i => ofO (atI x.cps.toList i) fun c => x.length ≤ sizeLine ∧ Q (.str ⟨#[c]⟩)
  | .dict ds, k => keyOk ds k = true ∧ ofO (lookD ds k) Q
  | _, _ => False
theorem m_idx : Mono2 dIdx := fun d e Q Q' h q => by
  unfold dIdx at *
  split at q
  · exact ofO_mono h q
  · exact ofO_mono h q
  · exact ofO_mono (fun z y => ⟨y.1, h _ y.2⟩) q
  · exact ⟨q.1, ofO_mono h q.2⟩
  · exact q.elim
theorem DRs.ixN {E : En} {xs : List V} {ds : List D} (r : DRs E H U xs ds) {i : Int} {d : D} (e : atI ds i = some d) : ∃ v, atI xs i = some v ∧ DR E H U v d := by
  unfold atI at *
  rw [r.length]
  obtain ⟨j, hj, e⟩ := Option.bind_eq_some_iff.mp e
  obtain ⟨v, e2, dr⟩ := r.getD e
  exact ⟨v, by rw [hj]; exact e2, dr⟩
theorem room8 {A : Around} (hu : A.units + 64 < cLine) : (nestedKind X.prog X.w).room A.in1 := by
  show A.units + 1 + 8 < cLine
  omega
theorem i_idx (hu : X.A.units + 64 < cLine) : IxR X (r2 (en X) dIdx) := by
  intro value slice pins s σ H x y v u Q I rx ry ⟨U, d, e, live, vx, vy, q⟩ hs
  unfold dIdx at q
  split at q
  · obtain ⟨a, xs, rfl, ha, dx⟩ := vx.lst
    cases vy.int
    obtain ⟨z, e1, q⟩ := ofO_some q
    obtain ⟨w, ew, dw⟩ := dx.ixN e1
    exact ix_list value slice pins s σ H _ _ v u Q I rx ry ⟨a, xs, _, w, rfl, rfl, SqL.of ha, ew, q _ H (Ex.refl H) dw⟩ hs
  · obtain ⟨a, xs, rfl, ha, dx⟩ := vx.tup
    cases vy.int
    obtain ⟨z, e1, q⟩ := ofO_some q
    obtain ⟨w, ew, dw⟩ := dx.ixN e1
    exact ix_tup value slice pins s σ H _ _ v u Q I rx ry ⟨a, xs, _, w, rfl, rfl, ha.sq, ew, q _ H (Ex.refl H) dw⟩ hs
  · cases vx.str
    cases vy.int
    obtain ⟨z, e1, q⟩ := ofO_some q
    exact ix_str value slice pins s σ H _ _ v u Q I rx ry ⟨_, _, _, rfl, rfl, q.1, e1, q.2 _ H (Ex.refl H) (.str _)⟩ hs
  · obtain ⟨q0, q⟩ := q
    obtain ⟨z, e1, qz⟩ := ofO_some q
    clear q
    · rcases dview I vx vy q0 ry with ⟨rfl, rfl, rfl, at1, rfl, dr⟩ | ⟨rfl, rfl, rfl, rfl, ki, at1, rfl, dr⟩
      · rename_i a key kvs us vs
        cases rx
        rcases lookK dr key with ⟨w, d', h1, h2, h3⟩ | ⟨h1, h2⟩
        · rw [h2] at e1
          cases e1
          obtain ⟨w', hw, rw'⟩ := RelO.some_of (v := w) (o := valueAt us key) (by rw [← h1]; exact at1.kv.val key)
          exact PyProof.Rows.tail_any at1.dd.typeIs PySem.F.slot_dict_getitem.lookup (wpAny_getItem_of (kV_is ry) at1.dd.mapOf hw ⟨w, H, I.tok _, rw', qz _ H (Ex.refl H) h3⟩) hs
        · rw [h2] at e1; cases e1
      · rename_i a b nk es us vs
        cases rx
        rcases lookN at1.kv dr nk with ⟨p, w, d', h1, h2, h3, h4⟩ | ⟨h1, h2⟩
        · rw [h3] at e1
          cases e1
          exact PyProof.Rows.tail_any at1.dd.typeIs PySem.F.slot_dict_getitem.lookup (wpAny_getItem_heap (room8 hu) ki at1.dd h1 ⟨w, H, I.tok _, h2, qz _ H (Ex.refl H) h4⟩) hs
        · rw [h2] at e1; cases e1
  · exact q.elim

/-! ### x in c -/
def anyD (xs : List D) (d : D) : Bool := xs.any fun y => PyData.eqv y d
def dInn (neg : Bool) : D2 := fun d e Q => match e with
  | .list xs => (plD d ∧ PyData.plainAll xs = true ∧ PyData.depthAll xs ≤ 50) ∧ Q (.bool (if neg then !anyD xs d else anyD xs d))
  | .tuple xs => (plD d ∧ PyData.plainAll xs = true ∧ PyData.depthAll xs ≤ 50) ∧ Q (.bool (if neg then !anyD xs d else anyD xs d))
  | .dict ds => keyOk ds d = true ∧ Q (.bool (if neg then !(lookD ds d).isSome else (lookD ds d).isSome))
  | _ => False
abbrev dIn : D2 := dInn false
abbrev dNotIn : D2 := dInn true
theorem m_inn (neg : Bool) : Mono2 (dInn neg) := fun d e Q Q' h q => by
  unfold dInn at *; split at q <;> first | exact ⟨q.1, h _ q.2⟩ | exact q.elim
theorem m_in : Mono2 dIn := m_inn false
theorem m_notIn : Mono2 dNotIn := m_inn true
theorem dict_in (neg : Bool) (hu : X.A.units + 64 < cLine) (I : Inv X pins σ H s) {x y : V} {v u : Value} {ds : List (D × D)} {k : D} {Q : VK} (rx : RelV x v) (ry : RelV y u) (vx : VW (en X) H U x k) (vy : VW (en X) H U y (.dict ds)) (ok : keyOk ds k = true)
    (q : Q (.bl (if neg then !(lookD ds k).isSome else (lookD ds k).isSome)) H) : wpAny (model X.prog X.w) X.A (compareOp (if neg then .NotIn else .In) v u) (EP X pins σ Q) X.xe s := by
  rcases dview I vy vx ok rx with ⟨rfl, rfl, rfl, at1, rfl, dr⟩ | ⟨rfl, rfl, rfl, rfl, ki, at1, rfl, dr⟩
  · rename_i a key kvs us vs
    cases ry
    have e : (valueAt us key).isSome = (lookD ((kvs.map fun p => kD p.1).zip vs) (kD key)).isSome := by
      rw [← (at1.kv.val key).isSome_eq]
      rcases lookK dr key with ⟨w, d', h1, h2, h3⟩ | ⟨h1, h2⟩ <;> rw [h1, h2] <;> rfl
    cases neg with
    | true => exact wpAny_notIn_of (kV_is rx) at1.sm at1.dd.mapOf (by rw [e]; exact ⟨.bl _, H, I.tok _, rfl, q⟩)
    | false => exact wpAny_in_of (kV_is rx) at1.sm at1.dd.mapOf (by rw [e]; exact ⟨.bl _, H, I.tok _, rfl, q⟩)
  · rename_i a b nk es us vs
    cases ry
    have e : (atKey us nk).isSome = (lookD ((es.map fun p => NestedKey.data p.1).zip vs) nk.data).isSome := by
      rcases lookN at1.kv dr nk with ⟨p, w, d', h1, h2, h3, h4⟩ | ⟨h1, h2⟩
      · rw [h1, h3]; rfl
      · rw [h1, h2]; rfl
    cases neg with
    | true => exact PyProof.Rows.wpAny_notIn_heap (room8 hu) ki at1.sm at1.dd (by rw [e]; exact ⟨.bl _, H, I.tok _, rfl, q⟩)
    | false => exact wpAny_in_heap (room8 hu) ki at1.sm at1.dd (by rw [e]; exact ⟨.bl _, H, I.tok _, rfl, q⟩)
theorem o_in (hu : X.A.units + 64 < cLine) : OpR X (compareOp .In) (r2 (en X) dIn) := by
  intro pins s σ H x y v u Q I rx ry ⟨U, d, e, live, vx, vy, q⟩
  unfold dIn dInn at q
  split at q
  · obtain ⟨⟨⟨p1, p2⟩, p3, p4⟩, q⟩ := q
    obtain ⟨as, ra⟩ := vx.reads I p1 rx
    obtain ⟨bs, rb⟩ := vy.reads I (by simpa [PyData.plain] using p3) ry
    exact SeqAt.in_list_data rb ra p3 p1 (by omega) ⟨.bl _, H, I, rfl, q _ H (Ex.refl H) (.bl _)⟩
  · obtain ⟨⟨⟨p1, p2⟩, p3, p4⟩, q⟩ := q
    obtain ⟨as, ra⟩ := vx.reads I p1 rx
    obtain ⟨bs, rb⟩ := vy.reads I (by simpa [PyData.plain] using p3) ry
    exact SeqAt.in_tuple_data rb ra p3 p1 (by omega) ⟨.bl _, H, I, rfl, q _ H (Ex.refl H) (.bl _)⟩
  · exact dict_in false hu I rx ry vx vy q.1 (q.2 _ H (Ex.refl H) (.bl _))
  · exact q.elim
theorem o_notIn (hu : X.A.units + 64 < cLine) : OpR X (compareOp .NotIn) (r2 (en X) dNotIn) := by
  intro pins s σ H x y v u Q I rx ry ⟨U, d, e, live, vx, vy, q⟩
  unfold dNotIn dInn at q
  split at q
  · obtain ⟨⟨⟨p1, p2⟩, p3, p4⟩, q⟩ := q
    obtain ⟨as, ra⟩ := vx.reads I p1 rx
    obtain ⟨bs, rb⟩ := vy.reads I (by simpa [PyData.plain] using p3) ry
    exact SeqAt.notIn_list_data rb ra p3 p1 (by omega) ⟨.bl _, H, I, rfl, q _ H (Ex.refl H) (.bl _)⟩
  · obtain ⟨⟨⟨p1, p2⟩, p3, p4⟩, q⟩ := q
    obtain ⟨as, ra⟩ := vx.reads I p1 rx
    obtain ⟨bs, rb⟩ := vy.reads I (by simpa [PyData.plain] using p3) ry
    exact SeqAt.notIn_tuple_data rb ra p3 p1 (by omega) ⟨.bl _, H, I, rfl, q _ H (Ex.refl H) (.bl _)⟩
  · exact dict_in true hu I rx ry vx vy q.1 (q.2 _ H (Ex.refl H) (.bl _))
  · exact q.elim
end
end L3
set_option Elab.async false
set_option linter.all false
set_option maxRecDepth 100000
namespace L3
open PySem PySem.Spec L2

/-! ## built-in functions on data -/
section
variable {X : Cx} {pins : List (Addr × Obj)} {σ : L2.St} {H : Hp} {s : Shared} {U : Addr → Prop}
/-- what a container's walk gives -/
def itemsD : D → Option (List D)
  | .list xs => some xs
  | .tuple xs => some xs
  | .dict kvs => some (kvs.map (·.1))
  | _ => none
theorem kD_V (k : Key) : RD (E := en X) H (kV k) (kD k) [] := by
  cases k with
  | inl i => exact .int i
  | inr x => exact .str x
theorem drs_keys {E : En} : ∀ (kvs : List (Key × V)), DRs E H U (kvs.map fun p => kV p.1) (kvs.map fun p => kD p.1)
  | [] => .nil
  | p :: r => .cons ⟨[], by rcases p with ⟨k | k, v⟩ <;> constructor, fun _ m => nomatch m⟩ (drs_keys r)
theorem map_zip_fst {α β : Type} : ∀ {xs : List α} {ys : List β}, xs.length = ys.length → (xs.zip ys).map (·.1) = xs
  | [], [], _ => rfl
  | x :: xs, y :: ys, h => by rw [List.zip_cons_cons, List.map_cons, map_zip_fst (by simpa using h)]
  | [], _ :: _, h => by cases h
  | _ :: _, [], h => by cases h
theorem acc_keys {es : Array DictEntry} {acc : Array Value} (it : ItemsOf (fun i v => ∃ en : DictEntry, es[i]? = some en ∧ v = en.key) acc es.size) : acc.toList = es.toList.map (·.key) := by
  apply List.ext_getElem?
  intro j
  rw [List.getElem?_map, Array.getElem?_toList, Array.getElem?_toList]
  cases hj : acc[j]? with
  | none =>
    have h1 := Array.getElem?_eq_none_iff.mp hj
    rw [it.1] at h1
    rw [Array.getElem?_eq_none h1]; rfl
  | some v =>
    obtain ⟨en, hen, hv⟩ := it.2 j v hj
    rw [hen, hv]; rfl
/-- the keys of an exact dict, collected -/
theorem coll_raw {prog : Program} {w : World} {A : Around} {E : Value → Shared → Prop} {a : Addr} {o : Obj} {es : Array DictEntry} {ep : Nat} {Q : List Value → Shared → Prop} (hh : A.handled = none) (ho : s.heap.get? a = some o) (hx : o.ExactDict) (hd : o.data = .dict es ep)
    (sm : (a == sysModules) = false) (le : es.size ≤ sizeLine) (h : ∀ h' tk, (∀ b o, s.heap.get? b = some o → h'.get? b = some o) → Q (es.toList.map (·.key)) { s with heap := h', toks := tk }) :
    wpAny (model prog w) A (collect (.ref a)) Q E s := by
  refine PySem.W.kdu_collect (kdl_raw sm hx hd) hh ho le fun h' tk acc hk it => ?_
  have e : acc.toList = es.toList.map (·.key) := acc_keys it
  rw [e]
  exact h h' tk hk
theorem vals_keys {kvs : List (Key × V)} {us : List (Key × Value)} (r : KV kvs us) : ∀ {l : List DictEntry}, Pairs (mixKind X.prog X.w) l us → Vals (kvs.map fun p => kV p.1) (l.map (·.key)) := by
  unfold KV at r
  induction r with
  | nil => intro l p; cases p; exact .nil
  | @cons p q ps qs h t ih =>
    intro l pr
    cases pr with
    | cons h1 h2 h3 =>
      refine .cons ?_ (ih h3)
      show RelV (kV p.1) _
      rw [h.1]
      exact keyIs_rel h1
theorem entries_len {es : List DictEntry} {us : List (Key × Value)} (p : Pairs (mixKind X.prog X.w) es us) : es.length = us.length := by
  induction p with
  | nil => rfl
  | cons _ _ _ ih => rw [List.length_cons, List.length_cons, ih]
theorem ne_refs {es : List (NestedKey × Addr × V)} {us : List (NestedKey × Addr × Value)} (r : NE es us) : Vals (es.map fun p => V.ref p.2.1) (us.map fun x => Value.ref x.2.1) := by
  induction r with
  | nil => exact .nil
  | @cons p q ps qs h t ih =>
    refine .cons ?_ ih
    show Value.ref q.2.1 = Value.ref p.2.1
    rw [h.2.1]
/-- what stands in a container -/
theorem coll (I : Inv X pins σ H s) {v : V} {d : D} {ds : List D} {u : Value} {A : Around} {E : Value → Shared → Prop} {Q : List Value → Shared → Prop} (vx : VW (en X) H U v d) (hi : itemsD d = some ds) (rx : RelV v u) (hA : A.handled = none)
    (h : ∀ us vs h' tk, Vals vs us → DRs (en X) H U vs ds → us.length ≤ sizeLine → (∀ b o, s.heap.get? b = some o → h'.get? b = some o) → Q us { s with heap := h', toks := tk }) : wpAny (model X.prog X.w) A (collect u) Q E s := by
  cases d with
  | list xs =>
    cases hi
    obtain ⟨a, ys, rfl, ha, dr⟩ := vx.lst
    cases rx
    obtain ⟨its, rv, ⟨o, n, ho, hc, _, hd⟩, hz⟩ := I.list (SqL.of ha)
    have hz' : its.length ≤ sizeLine := by rw [← rv.length]; exact hz
    exact wpAny_collect_seq a (.inl rfl) ho hc hd (fun h' hk => h its ys h' s.toks rv dr hz' hk) (by simpa using hz')
  | tuple xs =>
    cases hi
    obtain ⟨a, ys, rfl, ha, dr⟩ := vx.tup
    cases rx
    obtain ⟨its, rv, ⟨o, ho, hc, n, hd⟩, hz⟩ := I.tuple ha.sq
    have hz' : its.length ≤ sizeLine := by rw [← rv.length]; exact hz
    exact wpAny_collect_seq a (.inr rfl) ho hc hd (fun h' hk => h its ys h' s.toks rv dr hz' hk) (by simpa using hz')
  | dict kvs =>
    cases hi
    rcases vx.dict with ⟨a, ks, vs, rfl, ha, rfl, dr⟩ | ⟨a, es, vs, rfl, ha, dp, rfl, dk, dr⟩
    · cases rx
      obtain ⟨us, at1⟩ := atomAt I ha
      obtain ⟨o, es, ep, ho, hx, hd, _, pr, _⟩ := at1.dd
      have hl : (ks.map fun p => kD p.1).length = vs.length := by rw [List.length_map, ← dr.length, List.length_map]
      have hn : es.size = us.length := by rw [← entries_len pr, Array.length_toList]
      refine coll_raw hA ho hx hd at1.sm (by rw [hn]; exact at1.le) fun h' tk hk => h _ _ h' tk (vals_keys at1.kv pr) ?_ (by rw [List.length_map, Array.length_toList, hn]; exact at1.le) hk
      rw [map_zip_fst hl]
      exact drs_keys ks
    · cases rx
      obtain ⟨us, at1⟩ := nestAt I ha dp dk
      obtain ⟨o, en, ep, ho, hx, hd, he, _, _⟩ := at1.dd
      have hl : (es.map fun p => NestedKey.data p.1).length = vs.length := by rw [List.length_map, ← dr.length, List.length_map]
      have hn : en.size = us.length := by rw [← Array.length_toList, he, List.length_map]
      have hk2 : en.toList.map (·.key) = us.map fun x => Value.ref x.2.1 := by rw [he, List.map_map]; rfl
      have rv : Vals (es.map fun p => V.ref p.2.1) (us.map fun x => Value.ref x.2.1) := ne_refs at1.kv
      refine coll_raw hA ho hx hd at1.sm (by rw [hn]; exact at1.le) fun h' tk hk => h _ _ h' tk (by rw [hk2]; exact rv) ?_ (by rw [List.length_map, Array.length_toList, hn]; exact at1.le) hk
      rw [map_zip_fst hl]
      exact dk
  | none => cases hi
  | bool _ => cases hi
  | int _ => cases hi
  | str _ => cases hi

variable {E : En}
/-! ### tuple(x), list(x) -/
def dTuple : Dn := fun ds Q => match ds with
  | [d] => ofO (itemsD d) fun xs => Q (.tuple xs)
  | _ => False
theorem m_tuple : Monon dTuple := fun d Q Q' h q => by
  unfold dTuple at *; split at q <;> first | exact ofO_mono (fun z y => h _ y) q | exact q.elim
def dList : Dn := fun ds Q => match ds with
  | [d] => ofO (itemsD d) fun xs => Q (.list xs)
  | _ => False
theorem m_list : Monon dList := fun d Q Q' h q => by
  unfold dList at *; split at q <;> first | exact ofO_mono (fun z y => h _ y) q | exact q.elim
theorem VWs.one {xs : List V} {d : D} (h : VWs E H U xs [d]) : ∃ x, xs = [x] ∧ VW E H U x d := by
  cases h with
  | cons r t => cases t; exact ⟨_, rfl, r⟩
theorem VWs.two {xs : List V} {d e : D} (h : VWs E H U xs [d, e]) : ∃ x y, xs = [x, y] ∧ VW E H U x d ∧ VW E H U y e := by
  cases h with
  | cons r t => cases t with
    | cons r2 t => cases t; exact ⟨_, _, rfl, r, r2⟩
theorem code_tuple_dict {prog : Program} {w : World} {A : Around} {E : Value → Shared → Prop} {a : Addr} {Q₁ : Value → Shared → Prop} (hT : s.TypeIs (.ref a) "dict") {C : List Value → Heap → Nat → Prop}
    (hc : ∀ (A' : Around) (E' : Value → Shared → Prop) (R : List Value → Shared → Prop), A'.handled = A.handled → (∀ us h' tk, C us h' tk → R us { s with heap := h', toks := tk }) → wpAny (model prog w) A' (collect (.ref a)) R E' s)
    (h : ∀ us h' tk, C us h' tk → us.length ≤ sizeLine ∧ Q₁ (.ref h'.objs.size) { s with heap := h'.push { cls := .type "tuple", data := .seq us.toArray }, toks := tk }) :
    codeAny (model prog w) A (.call (.builtin "tuple.__new__") ⟨[.type "tuple", .ref a], []⟩) (PySem.wants Q₁ E) s := by
  refine codeAny_of_tree ?_
  show wpAny _ A.in1 (do checkBuiltinCall "tuple.__new__" ⟨[.type "tuple", .ref a], []⟩; again (.builtin "tuple.__new__" ⟨[.type "tuple", .ref a], []⟩)) _ _ s
  refine wpAny_bind (wpAny_of_eq (F.newCall_tuple_1 _) (wpAny_pure ⟨plainId_quiet F.plain_tuple_new _, codeAny_builtin F.entry_tuple_new ?_⟩))
  rw [Around.under_plainId F.plain_tuple_new _]
  have hsub := sub_tuple_self
  have hinit := init_tuple_lookup
  have hmh := madeHere_tuple
  have hcc : ∀ {R : List Value → Shared → Prop} {E' : Value → Shared → Prop}, (∀ us h' tk, C us h' tk → R us { s with heap := h', toks := tk }) → wpAny (model prog w) A.in1 (collect (.ref a)) R E' s := fun h => hc _ _ _ rfl h
  wp_walk using wpAny_typeOf hT, hcc
  intro us h' tk c
  obtain ⟨hz, hq⟩ := h us h' tk c
  show wpAny _ _ (Builtin.Tuple.tupleExact us.toArray >>= fun v => ret v) _ _ _
  unfold Builtin.Tuple.tupleExact
  refine wpAny_bind (wpAny_newObj_type ?_ (by show us.toArray.size ≤ sizeLine; simpa using hz))
  exact wpAny_pure hq
theorem c_tuple (hcalm : X.calm = true) : CallR X (.type "tuple") (rn (en X) dTuple) := by
  intro pins s σ H xs us Q I rs ⟨U, ds, live, vx, q⟩
  unfold dTuple at q
  split at q
  · rename_i d
    obtain ⟨x, rfl, vy⟩ := vx.one
    clear vx
    obtain ⟨u, rfl, rx⟩ := rs.one
    obtain ⟨zs, hz, q⟩ := ofO_some q
    cases d with
    | list xs =>
      cases hz
      obtain ⟨a, ys, rfl, ha, dr⟩ := vy.lst
      cases rx
      obtain ⟨its, rv, pl, hz⟩ := I.list (SqL.of ha)
      refine call_tuple_list pl.isList (fun h' hk => ?_) (by rw [List.size_toArray, ← rv.length]; exact hz)
      have I1 : Inv X pins σ H { s with heap := h' } := I.kept (t' := s.toks) hk
      exact laid_tup (s := { s with heap := h' }) (tk := s.toks) I1 rv (by rw [← rv.length]; exact hz) (fun b o e => Heap.get?_push_of_some _ e) (Nat.le_refl _) (Heap.get?_push_size _ rfl) fun o hn hd =>
        q _ _ (Ex.new hn) (.tup (tp_new hd) (nofr live hn) (dr.kp (Ex.new hn).kp))
    | tuple xs =>
      cases hz
      obtain ⟨a, ys, rfl, ha, dr⟩ := vy.tup
      exact L2.rl_tuple pins s σ H _ u Q I rx (.inr ⟨a, ys, rfl, ha.sq, q _ H (Ex.refl H) (.tup ha (notup live ha) dr)⟩)
    | dict kvs =>
      cases hz
      obtain ⟨a, rfl, hT⟩ : ∃ a, x = .ref a ∧ s.TypeIs (.ref a) "dict" := by
        rcases vy.dict with ⟨a, ks, vs, rfl, ha, rfl, dr⟩ | ⟨a, es, vs, rfl, ha, dp, rfl, dk, dr⟩
        · obtain ⟨us, at1⟩ := atomAt I ha
          exact ⟨a, rfl, at1.dd.typeIs⟩
        · obtain ⟨us, at1⟩ := nestAt I ha dp dk
          exact ⟨a, rfl, at1.dd.typeIs⟩
      cases rx
      refine callType_codes (Q₁ := fun obj s₁ => s₁.TypeIs obj "tuple" ∧ EP X pins σ Q obj s₁) F.called_tuple (F.typeCall_tuple_1 _) F.entry_object_init
        (code_tuple_dict (A := X.A.in1) hT (C := fun us h' tk => ∃ vs, Vals vs us ∧ DRs (en X) H U vs (kvs.map (·.1)) ∧ us.length ≤ sizeLine ∧ ∀ b o, s.heap.get? b = some o → h'.get? b = some o)
          (fun A' E' R hA hR => coll I vy rfl rfl (hA.trans (I.ok.hd hcalm)) fun us vs h' tk r1 r2 r3 r4 => hR us h' tk ⟨vs, r1, r2, r3, r4⟩) fun us h' tk ⟨vs, r1, r2, r3, r4⟩ => ⟨r3, ⟨_, Heap.get?_push_size _ rfl, rfl⟩, ?_⟩) fun obj s₁ h₁ => ?_
      · have I1 : Inv X pins σ H { s with heap := h', toks := tk } := I.kept (t' := tk) r4
        exact laid_tup (s := { s with heap := h', toks := tk }) (tk := tk) I1 r1 r3 (fun b o e => Heap.get?_push_of_some _ e) (Nat.le_refl _) (Heap.get?_push_size _ rfl) fun o hn hd =>
          q _ _ (Ex.new hn) (.tup (tp_new hd) (nofr live hn) (r2.kp (Ex.new hn).kp))
      · exact ⟨h₁.1, F.args_object_init_2 obj _, object_init_meets F.called_tuple.init.lookup F.called_tuple.made (by decide) X.prog X.w X.A.in1 _ s₁ ⟨h₁.1, rfl, h₁.2⟩⟩
    | none => cases hz
    | bool _ => cases hz
    | int _ => cases hz
    | str _ => cases hz
  · exact q.elim
/-- a new list is laid -/
theorem laid_lst (I : Inv X pins σ H s) (live : ∀ a, U a → Mut (H a)) {vs : List V} {zs : List D} {us : List Value} {h' : Heap} {tk n : Nat} {p : Addr} {Q : VK} (r1 : Vals vs us) (r2 : DRs (en X) H U vs zs) (r3 : us.length ≤ sizeLine) (hk : ∀ b o, s.heap.get? b = some o → h'.get? b = some o)
    (hp : s.heap.objs.size ≤ p) (ho : h'.get? p = some { cls := .type "list", data := .seq us.toArray n }) (q : ∀ v H', Ex H H' → DR (en X) H' U v (.list zs) → Q v H') : EP X pins σ Q (.ref p) { s with heap := h', toks := tk } := by
  have hz' : vs.length ≤ sizeLine := by rw [r1.length]; exact r3
  have hn := I.hok.fresh hp
  have I2 : Inv X pins σ (upd H p (.lst vs)) { s with heap := h', toks := tk } := I.laid (t' := tk) hk hp (show ObjOk X.prog X.w _ _ _ (.lst vs) from ⟨hz', us, n, r1, ho⟩)
  exact ⟨.ref p, _, I2, rfl, q _ _ (Ex.new hn) (.lst upd_same (nofr live hn) (r2.kp (Ex.new hn).kp))⟩
theorem c_list (hcalm : X.calm = true) : CallR X (.type "list") (rn (en X) dList) := by
  intro pins s σ H xs us Q I rs ⟨U, ds, live, vx, q⟩
  unfold dList at q
  split at q
  · rename_i d
    obtain ⟨x, rfl, vy⟩ := vx.one
    clear vx
    obtain ⟨zs, hz, q⟩ := ofO_some q
    cases d with
    | list xs =>
      cases hz
      obtain ⟨a, ys, rfl, ha, dr⟩ := vy.lst
      exact call_list_of pins s σ H _ us Q I rs ⟨a, ys, rfl, .inl (SqL.of ha), fun p hp => q _ _ (Ex.new hp) (.lst upd_same (nofr live hp) (dr.kp (Ex.new hp).kp))⟩
    | tuple xs =>
      cases hz
      obtain ⟨a, ys, rfl, ha, dr⟩ := vy.tup
      exact call_list_of pins s σ H _ us Q I rs ⟨a, ys, rfl, .inr ha.sq, fun p hp => q _ _ (Ex.new hp) (.lst upd_same (nofr live hp) (dr.kp (Ex.new hp).kp))⟩
    | dict kvs =>
      cases hz
      obtain ⟨u, rfl, rx⟩ := rs.one
      rcases vy.dict with ⟨a, ks, vs, rfl, ha, rfl, dr⟩ | ⟨a, es, vs, rfl, ha, dp, rfl, dk, dr⟩
      · cases rx
        obtain ⟨us, at1⟩ := atomAt I ha
        obtain ⟨o, es, ep, ho, hx, hd, _, pr, _⟩ := at1.dd
        have hl : (ks.map fun p => kD p.1).length = vs.length := by rw [List.length_map, ← dr.length, List.length_map]
        have hn : es.size = us.length := by rw [← entries_len pr, Array.length_toList]
        refine PySem.W.kdl_call (kdl_raw at1.sm hx hd) (I.ok.hd hcalm) ho (by rw [hn]; exact at1.le) fun h' tk acc' c' hkeep hS it => ?_
        have e : acc'.toList = es.toList.map (·.key) := acc_keys it
        refine laid_lst I live (vals_keys at1.kv pr) (drs_keys ks) (by rw [List.length_map, Array.length_toList, hn]; exact at1.le) hkeep (Nat.le_refl _) (by rw [← e, Array.toArray_toList]; exact hS) ?_
        rw [map_zip_fst hl] at q
        exact q
      · cases rx
        obtain ⟨us, at1⟩ := nestAt I ha dp dk
        obtain ⟨o, en, ep, ho, hx, hd, he, _, _⟩ := at1.dd
        have hl : (es.map fun p => NestedKey.data p.1).length = vs.length := by rw [List.length_map, ← dr.length, List.length_map]
        have hn : en.size = us.length := by rw [← Array.length_toList, he, List.length_map]
        have hk2 : en.toList.map (·.key) = us.map fun x => Value.ref x.2.1 := by rw [he, List.map_map]; rfl
        refine PySem.W.kdl_call (kdl_raw at1.sm hx hd) (I.ok.hd hcalm) ho (by rw [hn]; exact at1.le) fun h' tk acc' c' hkeep hS it => ?_
        have e : acc'.toList = en.toList.map (·.key) := acc_keys it
        refine laid_lst I live (ne_refs at1.kv) dk (by rw [← hk2, List.length_map, Array.length_toList, hn]; exact at1.le) hkeep (Nat.le_refl _) (by rw [← hk2, ← e, Array.toArray_toList]; exact hS) ?_
        rw [map_zip_fst hl] at q
        exact q
    | none => cases hz
    | bool _ => cases hz
    | int _ => cases hz
    | str _ => cases hz
  · exact q.elim

/-! ### sorted(x) -/
abbrev leD : D → D → Bool := PySem.W.dataLe false id
abbrev sortOk (xs : List D) : Prop := (PyData.plainAll xs = true ∧ PyData.depthAll xs ≤ 50) ∧ PySem.W.AllAlike xs ∧ PySem.W.Sortable xs
def dSorted : Dn := fun ds Q => match ds with
  | [d] => ofO (itemsD d) fun xs => sortOk xs ∧ Q (.list (xs.mergeSort leD))
  | _ => False
theorem m_sorted : Monon dSorted := fun d Q Q' h q => by
  unfold dSorted at *; split at q <;> first | exact ofO_mono (fun z y => ⟨y.1, h _ y.2⟩) q | exact q.elim
theorem each_reads (I : Inv X pins σ H s) : ∀ {vs : List V} {ds : List D} {us : List Value}, DRs (en X) H U vs ds → Vals vs us → PyData.plainAll ds = true →
    PySem.W.EachIs (fun u (p : V × D) => RelV p.1 u ∧ DR (en X) H U p.1 p.2) us (vs.zip ds) ∧ PySem.W.EachIs (fun u (p : V × D) => ∃ as, Reads s.heap u p.2 as) us (vs.zip ds)
  | _, _, _, .nil, .nil, _ => ⟨.nil, .nil⟩
  | _, _, _, .cons r t, .cons rv rt, p => by
    simp only [PyData.plainAll, Bool.and_eq_true] at p
    obtain ⟨h1, h2⟩ := each_reads I t rt p.2
    exact ⟨.cons ⟨rv, r⟩ h1, .cons (r.vw.reads I p.1 rv) h2⟩
theorem each_out : ∀ {us : List Value} {ps : List (V × D)}, PySem.W.EachIs (fun u (p : V × D) => RelV p.1 u ∧ DR (en X) H U p.1 p.2) us ps → Vals (ps.map (·.1)) us ∧ DRs (en X) H U (ps.map (·.1)) (ps.map (·.2))
  | _, _, .nil => ⟨.nil, .nil⟩
  | _, _, .cons h t => ⟨.cons h.1 (each_out t).1, .cons h.2 (each_out t).2⟩
theorem zip_snd {α β : Type} : ∀ {xs : List α} {ys : List β}, xs.length = ys.length → (xs.zip ys).map (·.2) = ys
  | [], [], _ => rfl
  | x :: xs, y :: ys, h => by rw [List.zip_cons_cons, List.map_cons, zip_snd (by simpa using h)]
  | [], _ :: _, h => by cases h
  | _ :: _, [], h => by cases h
theorem depth_mem {ds : List D} {d : D} (h : d ∈ ds) : d.depth ≤ PyData.depthAll ds := by
  induction ds with
  | nil => cases h
  | cons x xs ih =>
    rw [PyData.depthAll]
    rcases List.mem_cons.mp h with rfl | h
    · exact Nat.le_max_left _ _
    · exact Nat.le_trans (ih h) (Nat.le_max_right _ _)
theorem c_sorted (hcalm : X.calm = true) (hu : X.A.units + 64 < cLine) : CallR X (.builtin "sorted") (rn (en X) dSorted) := by
  intro pins s σ H xs us Q I rs ⟨U, ds, live, vx, q⟩
  unfold dSorted at q
  split at q
  · rename_i d
    obtain ⟨x, rfl, vy⟩ := vx.one
    clear vx
    obtain ⟨u, rfl, rx⟩ := rs.one
    obtain ⟨zs, hz, ⟨⟨⟨p1, p2⟩, p3, p4⟩, q⟩⟩ := ofO_some q
    refine Calls.call_function_entry PyProof.Rows.kind_sorted PyProof.Rows.plain_sorted PyProof.Rows.entry_sorted (PyProof.Rows.args_sorted1 _) ?_
    unfold Builtin.«sorted»
    refine wpAny_bind (m := checkCount "sorted" 1 1 _) (wpAny_pure ?_)
    refine wpAny_bind (coll (A := X.A.in1) I vy hz rx (I.ok.hd hcalm) fun us vs h' tk r1 r2 r3 r4 => ?_)
    refine wpAny_bind (wpAny_newList ?_ r3)
    have I1 : Inv X pins σ H { s with heap := h', toks := tk } := I.kept (t' := tk) r4
    have I2 : Inv X pins σ H { s with heap := h'.push { cls := .type "list", data := .seq us.toArray }, toks := tk } := I1.kept (t' := tk) fun b o e => Heap.get?_push_of_some _ e
    have hl : vs.length = zs.length := r2.length
    have en : (vs.zip zs).map (·.2) = zs := zip_snd hl
    obtain ⟨e1, e2⟩ := each_reads I1 r2 r1 p1
    have e2' : PySem.W.EachIs (fun u (p : V × D) => ∃ as, Reads (h'.push { cls := .type "list", data := .seq us.toArray }) u p.2 as ∧ h'.objs.size ∉ as) us (vs.zip zs) := e2.mono fun u p ⟨as, r⟩ =>
      ⟨as, PySem.W.reads_keeps (fun b o e => Heap.get?_push_of_some _ e) r, fun m => by
        obtain ⟨o, e⟩ := PyProof.On.reads_mem_get r _ m
        exact absurd (Heap.lt_size e) (Nat.lt_irrefl _)⟩
    refine wpAny_bind (wpAny_holding (wpAny_mono (PySem.W.list_sort_data (A := X.A.in1) (s := { s with heap := h'.push { cls := .type "list", data := .seq us.toArray }, toks := tk }) (enc := fun p : V × D => p.2) (n := 0) (a := h'.objs.size) (E := fun _ _ => False)
      (Q := fun _ s' => EP X pins σ Q (.ref h'.objs.size) s')
      (Heap.get?_push_size _ rfl) e1 e2' (by rw [en]; exact p3) (by rw [en]; exact p4) (by rw [List.length_zip, ← hl, Nat.min_self, r1.length]; exact r3) (fun p m => ?_) fun out ho eo => ?_) (fun _ s' x => ?_) fun _ _ e => e.elim))
    · have := depth_mem (show p.2 ∈ zs by rw [← en]; exact List.mem_map.mpr ⟨p, m, rfl⟩)
      show X.A.units + 1 + 1 + p.2.depth < cLine
      omega
    · obtain ⟨o1, o2⟩ := each_out eo
      obtain ⟨c, hc⟩ := PyProof.Rows.sortedHeap_at (vs := us) (out := out.toArray) (h := h'.push { cls := .type "list", data := .seq us.toArray }) (a := h'.objs.size) (n := 0) (Heap.get?_push_size _ rfl)
      have ez : ((vs.zip zs).mergeSort (PySem.W.dataLe false fun p : V × D => p.2)).map (·.2) = zs.mergeSort leD := by
        rw [List.map_mergeSort (r := PySem.W.dataLe false fun p : V × D => p.2) (s := leD) (fun _ _ _ _ => rfl), en]
      rw [ez] at o2
      refine laid_lst I1 live o1 o2 (by rw [ho, List.length_zip, ← hl, Nat.min_self, r1.length]; exact r3) (fun b o e' => ?_) (Nat.le_refl _) hc q
      have hb : b < h'.objs.size := Heap.lt_size e'
      rw [PyProof.Rows.sortedHeap_old (Nat.ne_of_lt hb) (by rw [PyProof.Rows.size_push']; exact Nat.lt_succ_of_lt hb)]
      exact Heap.get?_push_of_some _ e'
    · exact wpAny_pure ⟨_, rfl, x⟩
  · exact q.elim
end
end L3
set_option Elab.async false
set_option linter.all false
set_option maxRecDepth 100000
namespace L3
open PySem PySem.Spec L2

section
variable {X : Cx} {pins : List (Addr × Obj)} {σ : L2.St} {H : Hp} {s : Shared} {U : Addr → Prop} {E : En}
/-! ### len -/
def dLen : Dn := fun ds Q => match ds with
  | [.list xs] => Q (.int xs.length)
  | [.tuple xs] => Q (.int xs.length)
  | [.dict xs] => Q (.int xs.length)
  | [.str x] => x.length ≤ sizeLine ∧ Q (.int x.length)
  | _ => False
theorem m_len : Monon dLen := fun d Q Q' h q => by
  unfold dLen at *; split at q <;> first | exact h _ q | exact ⟨q.1, h _ q.2⟩ | exact q.elim
theorem zip_len {α β : Type} {xs : List α} {ys : List β} (h : xs.length = ys.length) : (xs.zip ys).length = xs.length := by rw [List.length_zip, ← h, Nat.min_self]
theorem c_len : CallR X (.builtin "len") (rn (en X) dLen) := by
  intro pins s σ H xs us Q I rs ⟨U, ds, live, vx, q⟩
  unfold dLen at q
  split at q
  · obtain ⟨x, rfl, vy⟩ := vx.one
    obtain ⟨a, ys, rfl, ha, dr⟩ := vy.lst
    exact call_len pins s σ H _ us Q I rs ⟨_, ys.length, rfl, .inl ⟨ys, SqL.of ha, rfl⟩, by rw [dr.length]; exact q _ H (Ex.refl H) (.int _)⟩
  · obtain ⟨x, rfl, vy⟩ := vx.one
    obtain ⟨a, ys, rfl, ha, dr⟩ := vy.tup
    exact call_len pins s σ H _ us Q I rs ⟨_, ys.length, rfl, .inr ⟨ys, ha.sq, rfl⟩, by rw [dr.length]; exact q _ H (Ex.refl H) (.int _)⟩
  · obtain ⟨x, rfl, vy⟩ := vx.one
    clear vx
    obtain ⟨u, rfl, rx⟩ := rs.one
    rcases vy.dict with ⟨a, ks, vs, rfl, ha, rfl, dr⟩ | ⟨a, es, vs, rfl, ha, dp, rfl, dk, dr⟩
    · cases rx
      have hl : (ks.map fun p => kD p.1).length = vs.length := by rw [List.length_map, ← dr.length, List.length_map]
      refine d_len I (.inl ha) fun t s' I' => ⟨.int ks.length, H, I', ⟨_, rfl⟩, ?_⟩
      have := q (.int ks.length) H (Ex.refl H)
      rw [zip_len hl, List.length_map] at this
      exact this (.int _)
    · cases rx
      obtain ⟨us, at1⟩ := nestAt I ha dp dk
      have hl : (es.map fun p => NestedKey.data p.1).length = vs.length := by rw [List.length_map, ← dr.length, List.length_map]
      have hn : es.length = us.length := Paired.length at1.kv
      refine call_len_dictH at1.sm at1.dd (by have := at1.le; rw [sizeLine_eq] at this; omega) ?_
      rw [← hn]
      refine ⟨.int es.length, H, I.tok _, ⟨_, rfl⟩, ?_⟩
      have := q (.int es.length) H (Ex.refl H)
      rw [zip_len hl, List.length_map] at this
      exact this (.int _)
  · obtain ⟨x, rfl, vy⟩ := vx.one
    cases vy.str
    exact call_len pins s σ H _ us Q I rs ⟨_, _, rfl, ⟨q.1, rfl⟩, q.2 _ H (Ex.refl H) (.int _)⟩
  · exact q.elim

/-! ### numbers -/
def dInt : Dn := fun ds Q => match ds with
  | [.int i] => Q (.int i)
  | [.bool b] => Q (.int (if b then 1 else 0))
  | _ => False
theorem m_int : Monon dInt := fun d Q Q' h q => by
  unfold dInt at *; split at q <;> first | exact h _ q | exact q.elim
theorem c_int : CallR X (.type "int") (rn (en X) dInt) := by
  intro pins s σ H xs us Q I rs ⟨U, ds, live, vx, q⟩
  unfold dInt at q
  split at q
  · obtain ⟨x, rfl, vy⟩ := vx.one
    cases vy.int
    exact call_int1 pins s σ H _ us Q I rs (.inl ⟨_, rfl, q _ H (Ex.refl H) (.int _)⟩)
  · obtain ⟨x, rfl, vy⟩ := vx.one
    cases vy.bl
    exact call_int1 pins s σ H _ us Q I rs (.inr ⟨_, rfl, q _ H (Ex.refl H) (.int _)⟩)
  · exact q.elim
def dAbs : Dn := fun ds Q => match ds with
  | [.int i] => Q (.int (if i < 0 then -i else i))
  | _ => False
theorem m_abs : Monon dAbs := fun d Q Q' h q => by
  unfold dAbs at *; split at q <;> first | exact h _ q | exact q.elim
theorem c_abs : CallR X (.builtin "abs") (rn (en X) dAbs) := by
  intro pins s σ H xs us Q I rs ⟨U, ds, live, vx, q⟩
  unfold dAbs at q
  split at q
  · obtain ⟨x, rfl, vy⟩ := vx.one
    cases vy.int
    exact call_abs pins s σ H _ us Q I rs ⟨_, rfl, q _ H (Ex.refl H) (.int _)⟩
  · exact q.elim
def dStr : Dn := fun ds Q => match ds with
  | [.str x] => Q (.str x)
  | [.int i] => i.natAbs.log2 < 1920 ∧ Q (.str (toString i))
  | _ => False
theorem m_str : Monon dStr := fun d Q Q' h q => by
  unfold dStr at *; split at q <;> first | exact h _ q | exact ⟨q.1, h _ q.2⟩ | exact q.elim
theorem c_str : CallR X (.type "str") (rn (en X) dStr) := by
  intro pins s σ H xs us Q I rs ⟨U, ds, live, vx, q⟩
  unfold dStr at q
  split at q
  · obtain ⟨x, rfl, vy⟩ := vx.one
    cases vy.str
    exact SkE.call_str_str pins s σ H _ us Q I rs ⟨_, rfl, q _ H (Ex.refl H) (.str _)⟩
  · obtain ⟨x, rfl, vy⟩ := vx.one
    cases vy.int
    exact call_str_int pins s σ H _ us Q I rs ⟨_, rfl, q.1, q.2 _ H (Ex.refl H) (.str _)⟩
  · exact q.elim
theorem ints_of {xs : List V} {ns : List Int} (h : DRs E H U xs (ns.map .int)) : xs = ns.map V.int := by
  induction ns generalizing xs with
  | nil => cases h; rfl
  | cons n ns ih => cases h with
    | cons r t =>
      rw [r.vw.int, ih t]; rfl
theorem bools_of {xs : List V} {ns : List Bool} (h : DRs E H U xs (ns.map .bool)) : xs = ns.map V.bl := by
  induction ns generalizing xs with
  | nil => cases h; rfl
  | cons n ns ih => cases h with
    | cons r t =>
      rw [r.vw.bl, ih t]; rfl
def dMax : Dn := fun ds Q => match ds with
  | [.int i, .int j] => Q (.int (if j > i then j else i))
  | [.list xs] => ∃ ns : List Int, xs = ns.map .int ∧ 0 < ns.length ∧ ∀ m, m ∈ ns → (∀ y, y ∈ ns → y ≤ m) → Q (.int m)
  | _ => False
theorem m_max : Monon dMax := fun d Q Q' h q => by
  unfold dMax at *
  split at q
  · exact h _ q
  · obtain ⟨ns, e, l, q⟩ := q
    exact ⟨ns, e, l, fun m h1 h2 => h _ (q m h1 h2)⟩
  · exact q.elim
theorem c_max (hc : X.calm = true) : CallR X (.builtin "max") (rn (en X) dMax) := by
  intro pins s σ H xs us Q I rs ⟨U, ds, live, vx, q⟩
  unfold dMax at q
  split at q
  · obtain ⟨x, y, rfl, vy, vz⟩ := vx.two
    cases vy.int; cases vz.int
    exact call_max2 hc pins s σ H _ us Q I rs ⟨_, _, rfl, q _ H (Ex.refl H) (.int _)⟩
  · obtain ⟨ns, rfl, l, q⟩ := q
    obtain ⟨x, rfl, vy⟩ := vx.one
    obtain ⟨a, ys, rfl, ha, dr⟩ := vy.lst
    cases ints_of dr
    exact cr_max hc pins s σ H _ us Q I rs ⟨a, ns, rfl, SqL.of ha, l, fun m h1 h2 => q m h1 h2 _ H (Ex.refl H) (.int _)⟩
  · exact q.elim
def dMin : Dn := fun ds Q => match ds with
  | [.int i, .int j] => Q (.int (if j < i then j else i))
  | [.list xs] => ∃ ns : List Int, xs = ns.map .int ∧ 0 < ns.length ∧ ∀ m, m ∈ ns → (∀ y, y ∈ ns → m ≤ y) → Q (.int m)
  | _ => False
theorem m_min : Monon dMin := fun d Q Q' h q => by
  unfold dMin at *
  split at q
  · exact h _ q
  · obtain ⟨ns, e, l, q⟩ := q
    exact ⟨ns, e, l, fun m h1 h2 => h _ (q m h1 h2)⟩
  · exact q.elim
theorem c_min (hc : X.calm = true) : CallR X (.builtin "min") (rn (en X) dMin) := by
  intro pins s σ H xs us Q I rs ⟨U, ds, live, vx, q⟩
  unfold dMin at q
  split at q
  · obtain ⟨x, y, rfl, vy, vz⟩ := vx.two
    cases vy.int; cases vz.int
    exact call_min2 hc pins s σ H _ us Q I rs ⟨_, _, rfl, q _ H (Ex.refl H) (.int _)⟩
  · obtain ⟨ns, rfl, l, q⟩ := q
    obtain ⟨x, rfl, vy⟩ := vx.one
    obtain ⟨a, ys, rfl, ha, dr⟩ := vy.lst
    cases ints_of dr
    exact cr_min hc pins s σ H _ us Q I rs ⟨a, ns, rfl, SqL.of ha, l, fun m h1 h2 => q m h1 h2 _ H (Ex.refl H) (.int _)⟩
  · exact q.elim
def dSum1 : Dn := fun ds Q => match ds with
  | [.list xs] => ∃ ns : List Int, xs = ns.map .int ∧ Q (.int ns.sum)
  | _ => False
theorem m_sum1 : Monon dSum1 := fun d Q Q' h q => by
  unfold dSum1 at *
  split at q
  · obtain ⟨ns, e, q⟩ := q
    exact ⟨ns, e, h _ q⟩
  · exact q.elim
theorem c_sum1 (hc : X.calm = true) : CallR X (.builtin "sum") (rn (en X) dSum1) := by
  intro pins s σ H xs us Q I rs ⟨U, ds, live, vx, q⟩
  unfold dSum1 at q
  split at q
  · obtain ⟨ns, rfl, q⟩ := q
    obtain ⟨x, rfl, vy⟩ := vx.one
    obtain ⟨a, ys, rfl, ha, dr⟩ := vy.lst
    cases ints_of dr
    exact cr_sum hc pins s σ H _ us Q I rs ⟨a, ns, rfl, SqL.of ha, q _ H (Ex.refl H) (.int _)⟩
  · exact q.elim
def dAll : Dn := fun ds Q => match ds with
  | [.list xs] => ∃ ns : List Bool, xs = ns.map .bool ∧ Q (.bool (ns.all id))
  | _ => False
theorem m_all : Monon dAll := fun d Q Q' h q => by
  unfold dAll at *
  split at q
  · obtain ⟨ns, e, q⟩ := q
    exact ⟨ns, e, h _ q⟩
  · exact q.elim
theorem c_all (hc : X.calm = true) : CallR X (.builtin "all") (rn (en X) dAll) := by
  intro pins s σ H xs us Q I rs ⟨U, ds, live, vx, q⟩
  unfold dAll at q
  split at q
  · obtain ⟨ns, rfl, q⟩ := q
    obtain ⟨x, rfl, vy⟩ := vx.one
    obtain ⟨a, ys, rfl, ha, dr⟩ := vy.lst
    cases bools_of dr
    exact cr_all hc pins s σ H _ us Q I rs ⟨a, ns, rfl, SqL.of ha, q _ H (Ex.refl H) (.bl _)⟩
  · exact q.elim

/-! ### isinstance -/
def isTy (T : String) (d : D) : Option Bool := match T with
  | "tuple" => some d.isTuple
  | "list" => some d.isList
  | "dict" => some d.isDict
  | "int" => some d.isInt
  | "bool" => some d.isBool
  | "str" => some d.isStr
  | _ => none
/-- the object that reads as d has d's class -/
theorem VW.obj (I : Inv X pins σ H s) {v : V} {d : D} {u : Value} (h : VW (en X) H U v d) (r : RelV v u) : match d with
    | .none => u = .none
    | .bool b => u = .bool b
    | .int i => ∃ t, u = .int i t
    | .str x => ∃ t, u = .str x t
    | .list _ => ∃ a o, u = .ref a ∧ s.heap.get? a = some o ∧ o.cls = .type "list"
    | .tuple _ => ∃ a o, u = .ref a ∧ s.heap.get? a = some o ∧ o.cls = .type "tuple"
    | .dict _ => ∃ a o, u = .ref a ∧ s.heap.get? a = some o ∧ o.cls = .type "dict" := by
  cases d with
  | none => cases h.non; exact r
  | bool b => cases h.bl; exact r
  | int i => cases h.int; exact r
  | str x => cases h.str; exact r
  | list xs =>
    obtain ⟨a, ys, rfl, ha, dr⟩ := h.lst
    cases r
    obtain ⟨its, rv, ⟨o, n, ho, hc, _, hd⟩, _⟩ := I.list (SqL.of ha)
    exact ⟨a, o, rfl, ho, hc⟩
  | tuple xs =>
    obtain ⟨a, ys, rfl, ha, dr⟩ := h.tup
    cases r
    obtain ⟨its, rv, ⟨o, ho, hc, n, hd⟩, _⟩ := I.tuple ha.sq
    exact ⟨a, o, rfl, ho, hc⟩
  | dict kvs =>
    rcases h.dict with ⟨a, ks, vs, rfl, ha, rfl, dr⟩ | ⟨a, es, vs, rfl, ha, dp, rfl, dk, dr⟩
    · cases r
      obtain ⟨us, at1⟩ := atomAt I ha
      obtain ⟨o, _, _, ho, hx, _⟩ := at1.dd
      exact ⟨a, o, rfl, ho, hx.1⟩
    · cases r
      obtain ⟨us, at1⟩ := nestAt I ha dp dk
      obtain ⟨o, _, _, ho, hx, _⟩ := at1.dd
      exact ⟨a, o, rfl, ho, hx.1⟩
theorem isi_ok (I : Inv X pins σ H s) {v : V} {d : D} {u : Value} {T : String} {b : Bool} {Q : Value → Shared → Prop} {E : Value → Shared → Prop} (h : VW (en X) H U v d) (r : RelV v u) (e : isTy T d = some b) (hq : ∀ tk, Q (.bool b) { s with toks := tk }) :
    wpAny (model X.prog X.w) X.A (call (.builtin "isinstance") [u, .type T]) Q E s := by
  have o := h.obj I r
  unfold isTy at e
  split at e <;> cases e <;> cases d <;> simp only at o
  case h_1.refl.none => subst o; exact IsiPair.NoneType_tuple (hq _)
  case h_1.refl.bool => subst o; exact IsiPair.bool_tuple (hq _)
  case h_1.refl.int => obtain ⟨t, rfl⟩ := o; exact IsiPair.int_tuple (hq _)
  case h_1.refl.str => obtain ⟨t, rfl⟩ := o; exact IsiPair.str_tuple (hq _)
  case h_1.refl.list => obtain ⟨a, o, rfl, h1, h2⟩ := o; exact IsiPair.list_tuple h1 h2 (hq _)
  case h_1.refl.tuple => obtain ⟨a, o, rfl, h1, h2⟩ := o; exact IsiPair.tuple_tuple h1 h2 (hq s.toks)
  case h_1.refl.dict => obtain ⟨a, o, rfl, h1, h2⟩ := o; exact IsiPair.dict_tuple h1 h2 (hq _)
  case h_2.refl.none => subst o; exact IsiPair.NoneType_list (hq _)
  case h_2.refl.bool => subst o; exact IsiPair.bool_list (hq _)
  case h_2.refl.int => obtain ⟨t, rfl⟩ := o; exact IsiPair.int_list (hq _)
  case h_2.refl.str => obtain ⟨t, rfl⟩ := o; exact IsiPair.str_list (hq _)
  case h_2.refl.list => obtain ⟨a, o, rfl, h1, h2⟩ := o; exact IsiPair.list_list h1 h2 (hq s.toks)
  case h_2.refl.tuple => obtain ⟨a, o, rfl, h1, h2⟩ := o; exact IsiPair.tuple_list h1 h2 (hq _)
  case h_2.refl.dict => obtain ⟨a, o, rfl, h1, h2⟩ := o; exact IsiPair.dict_list h1 h2 (hq _)
  case h_3.refl.none => subst o; exact IsiPair.NoneType_dict (hq _)
  case h_3.refl.bool => subst o; exact IsiPair.bool_dict (hq _)
  case h_3.refl.int => obtain ⟨t, rfl⟩ := o; exact IsiPair.int_dict (hq _)
  case h_3.refl.str => obtain ⟨t, rfl⟩ := o; exact IsiPair.str_dict (hq _)
  case h_3.refl.list => obtain ⟨a, o, rfl, h1, h2⟩ := o; exact IsiPair.list_dict h1 h2 (hq _)
  case h_3.refl.tuple => obtain ⟨a, o, rfl, h1, h2⟩ := o; exact IsiPair.tuple_dict h1 h2 (hq _)
  case h_3.refl.dict => obtain ⟨a, o, rfl, h1, h2⟩ := o; exact IsiPair.dict_dict h1 h2 (hq s.toks)
  case h_4.refl.none => subst o; exact IsiPair.NoneType_int (hq _)
  case h_4.refl.bool => subst o; exact IsiPair.bool_int (hq _)
  case h_4.refl.int => obtain ⟨t, rfl⟩ := o; exact IsiPair.int_int (hq s.toks)
  case h_4.refl.str => obtain ⟨t, rfl⟩ := o; exact IsiPair.str_int (hq _)
  case h_4.refl.list => obtain ⟨a, o, rfl, h1, h2⟩ := o; exact IsiPair.list_int h1 h2 (hq _)
  case h_4.refl.tuple => obtain ⟨a, o, rfl, h1, h2⟩ := o; exact IsiPair.tuple_int h1 h2 (hq _)
  case h_4.refl.dict => obtain ⟨a, o, rfl, h1, h2⟩ := o; exact IsiPair.dict_int h1 h2 (hq _)
  case h_5.refl.none => subst o; exact IsiPair.NoneType_bool (hq _)
  case h_5.refl.bool => subst o; exact IsiPair.bool_bool (hq s.toks)
  case h_5.refl.int => obtain ⟨t, rfl⟩ := o; exact IsiPair.int_bool (hq _)
  case h_5.refl.str => obtain ⟨t, rfl⟩ := o; exact IsiPair.str_bool (hq _)
  case h_5.refl.list => obtain ⟨a, o, rfl, h1, h2⟩ := o; exact IsiPair.list_bool h1 h2 (hq _)
  case h_5.refl.tuple => obtain ⟨a, o, rfl, h1, h2⟩ := o; exact IsiPair.tuple_bool h1 h2 (hq _)
  case h_5.refl.dict => obtain ⟨a, o, rfl, h1, h2⟩ := o; exact IsiPair.dict_bool h1 h2 (hq _)
  case h_6.refl.none => subst o; exact IsiPair.NoneType_str (hq _)
  case h_6.refl.bool => subst o; exact IsiPair.bool_str (hq _)
  case h_6.refl.int => obtain ⟨t, rfl⟩ := o; exact IsiPair.int_str (hq _)
  case h_6.refl.str => obtain ⟨t, rfl⟩ := o; exact IsiPair.str_str (hq s.toks)
  case h_6.refl.list => obtain ⟨a, o, rfl, h1, h2⟩ := o; exact IsiPair.list_str h1 h2 (hq _)
  case h_6.refl.tuple => obtain ⟨a, o, rfl, h1, h2⟩ := o; exact IsiPair.tuple_str h1 h2 (hq _)
  case h_6.refl.dict => obtain ⟨a, o, rfl, h1, h2⟩ := o; exact IsiPair.dict_str h1 h2 (hq _)
end
end L3
set_option Elab.async false
set_option linter.all false
set_option maxRecDepth 100000
namespace L3
open PySem PySem.Spec L2

section
variable {X : Cx} {P : Pn} {E : En} {a b c e : Expr} {es : List Expr} {pos p p2 : Pos} {x : Str}
/-! ### isinstance(e, T) -/
@[simp] def wIsi (T : String) (w : WV) : WV := fun Γ Q => w Γ fun d => ofO (isTy T d) fun b => Q (.bool b)
def rIsiD (E : En) (T : String) : List V → Hp → VK → Prop := fun xs H Q => ∃ U v d b, xs = [v, .ty T] ∧ VW E H U v d ∧ isTy T d = some b ∧ Q (.bl b) H
theorem c_isi {T : String} : CallR X (.builtin "isinstance") (rIsiD (en X) T) := by
  intro pins s σ H xs us Q I rs ⟨U, v, d, b, e, vx, ht, q⟩
  subst e
  obtain ⟨u, w, rfl, r1, r2⟩ := vals2 rs
  cases r2
  exact isi_ok I vx r1 ht fun tk => ⟨.bl b, H, I.tok tk, rfl, q⟩
theorem qf_isi {T : String} {y : Str} {w : WV} (hg : Gl X "isinstance") (hm : X.mg "isinstance" = none) (ha : QV X P a w) (hgT : Gl X y) (hmT : X.mg y = none) (hv : bootBuiltins y = some (.type T))
    (he : starEach [a, .Name y p2] X.env = (false, eval a X.env) :: starEach [.Name y p2] X.env := by rfl) (hpl : (backTo pos (starEach [.Name y p2] X.env)).any (·.1) = false := by rfl)
    (he2 : starEach [.Name y p2] X.env = (false, eval (.Name y p2) X.env) :: starEach [] X.env := by rfl) (hn : y ≠ "__name__" := by decide) (hdb : (y == ("__debug__" : Str)) = false := by decide) :
    QF X P (.Call (.Name "isinstance" p) [a, .Name y p2] [] pos) (wIsi T w) :=
  pe_imp (pe_callB (c_isi (T := T)) hg hm (by decide +kernel) (pa_cons ha (pa_cons (pe_bltn (v := .ty T) hgT hmT hv rfl hn hdb) pa_nil he2) he) (by decide) (by decide) he hpl) fun σ H Q' ⟨U, fp, Γ, Q, r, q, k⟩ =>
    ⟨U, fp, Γ, _, r, q, fun v H1 d e1 vx q1 => by
      obtain ⟨b, hb, q2⟩ := ofO_some q1
      exact ⟨U, v, d, b, rfl, vx, hb, k _ H1 _ e1 (.bl b) q2⟩⟩

/-! ### displays -/
@[simp] def wTup (w : WA) : WV := fun Γ Q => w Γ fun ds => ds.length ≤ sizeLine ∧ Q (.tuple ds)
@[simp] def wLst (w : WA) : WV := fun Γ Q => w Γ fun ds => ds.length ≤ sizeLine ∧ Q (.list ds)
@[simp] def wTupE (w : WAE) : WE := fun Γ Q => w Γ fun ds Γ1 => ds.length ≤ sizeLine ∧ Q (.tuple ds) Γ1
@[simp] def wLstE (w : WAE) : WE := fun Γ Q => w Γ fun ds Γ1 => ds.length ≤ sizeLine ∧ Q (.list ds) Γ1
theorem qf_tup {x1} {w : WA} (h : QAF X P es w) : QF X P (.Tuple es x1 pos) (wTup w) := pe_imp (pe_tupF h) fun σ H Q' ⟨U, fp, Γ, Q, r, q, k⟩ =>
  ⟨U, fp, Γ, _, r, q, fun vs H1 ds e1 dr q1 => ⟨by rw [dr.length]; exact q1.1, fun p o hp hd => k _ _ _ (e1.trans (Ex.new hp)) (.tup (tp_new hd) (nofr (r.ex e1).live hp) (dr.kp (Ex.new hp).kp)) q1.2⟩⟩
theorem qf_lst {w : WA} (h : QAF X P es w) : QF X P (.List es pos) (wLst w) := pe_imp (pe_lst h) fun σ H Q' ⟨U, fp, Γ, Q, r, q, k⟩ =>
  ⟨U, fp, Γ, _, r, q, fun vs H1 ds e1 dr q1 => ⟨by rw [dr.length]; exact q1.1, fun p hp => k _ _ _ (e1.trans (Ex.new hp)) (.lst upd_same (nofr (r.ex e1).live hp) (dr.kp (Ex.new hp).kp)) q1.2⟩⟩
theorem qe_tup {x1} {w : WAE} (h : QAE X P es w) : QE X P (.Tuple es x1 pos) (wTupE w) := pe_imp (pe_tupF h) fun σ H Q' ⟨U, fp, Γ, Q, r, q, k⟩ =>
  ⟨U, fp, Γ, _, r, q, fun vs H1 U1 fp1 Γ1 ds s1 r1 dr q1 => ⟨by rw [dr.length]; exact q1.1, fun p o hp hd => k _ _ U1 fp1 Γ1 _ (r.trans s1 (Ex.new hp).step) (r1.ex (Ex.new hp)) (.tup (tp_new hd) (nofr r1.live hp) (dr.kp (Ex.new hp).kp)) q1.2⟩⟩
theorem qe_lst {w : WAE} (h : QAE X P es w) : QE X P (.List es pos) (wLstE w) := pe_imp (pe_lst h) fun σ H Q' ⟨U, fp, Γ, Q, r, q, k⟩ =>
  ⟨U, fp, Γ, _, r, q, fun vs H1 U1 fp1 Γ1 ds s1 r1 dr q1 => ⟨by rw [dr.length]; exact q1.1, fun p hp => k _ _ U1 fp1 Γ1 _ (r.trans s1 (Ex.new hp).step) (r1.ex (Ex.new hp)) (.lst upd_same (nofr r1.live hp) (dr.kp (Ex.new hp).kp)) q1.2⟩⟩

/-! ### slices -/
abbrev WP := Gm → (Option Int → Prop) → Prop
abbrev WPE := Gm → (Option Int → Gm → Prop) → Prop
def jP (E : En) (P : Pn) (w : WP) : TO := fun σ H Q' => ∃ U fp Γ Q, REL E P U fp Γ σ H ∧ w Γ Q ∧ ∀ o H', Ex H H' → Q o → Q' o H'
def jPE (E : En) (P : Pn) (w : WPE) : TO := fun σ H Q' => ∃ U fp Γ Q, REL E P U fp Γ σ H ∧ w Γ Q ∧ ∀ o H' U' fp' Γ', Step U fp H U' fp' H' → REL E P U' fp' Γ' σ H' → Q o Γ' → Q' o H'
theorem po_imp {o : Option Expr} {t t' : TO} (h : PO X o t) (f : ∀ σ H Q, t' σ H Q → t σ H Q) : PO X o t' := ⟨fun pins s σ H Q I q => h.run pins s σ H Q I (f σ H Q q)⟩
@[simp] def wNoP : WP := fun _ Q => Q none
@[simp] def wNoPE : WPE := fun Γ Q => Q none Γ
@[simp] def wPt (w : WV) : WP := fun Γ Q => w Γ fun d => match d with | .int i => Q (some i) | _ => False
@[simp] def wPtE (w : WE) : WPE := fun Γ Q => w Γ fun d Γ1 => match d with | .int i => Q (some i) Γ1 | _ => False
theorem qp_no : PO X none (jP (en X) P wNoP) := po_imp po_none fun σ H Q' ⟨U, fp, Γ, Q, r, q, k⟩ => k none H (Ex.refl H) q
theorem qpe_no : PO X none (jPE (en X) P wNoPE) := po_imp po_none fun σ H Q' ⟨U, fp, Γ, Q, r, q, k⟩ => k none H U fp Γ .refl r q
theorem qp_some {w : WV} (h : QV X P e w) : PO X (some e) (jP (en X) P (wPt w)) := po_imp (po_some h) fun σ H Q' ⟨U, fp, Γ, Q, r, q, k⟩ => ⟨U, fp, Γ, _, r, q, fun v H1 d e1 vx q1 => by
  cases d with
  | int i => exact ⟨i, vx.int, k _ H1 e1 q1⟩
  | _ => exact q1.elim⟩
theorem qpe_some {w : WE} (h : QE X P e w) : PO X (some e) (jPE (en X) P (wPtE w)) := po_imp (po_some h) fun σ H Q' ⟨U, fp, Γ, Q, r, q, k⟩ => ⟨U, fp, Γ, _, r, q, fun v H1 U1 fp1 Γ1 d s1 r1 vx q1 => by
  cases d with
  | int i => exact ⟨i, vx.vw.int, k _ H1 U1 fp1 Γ1 s1 r1 q1⟩
  | _ => exact q1.elim⟩
def cutD (xs : List D) (lo hi : Option Int) : List D := (xs.drop (HT.sIx xs.length 0 lo)).take (HT.sIx xs.length xs.length hi - HT.sIx xs.length 0 lo)
def dSl (d : D) (lo hi : Option Int) (Q : D → Prop) : Prop := match d with
  | .list xs => Q (.list (cutD xs lo hi))
  | .tuple xs => Q (.tuple (cutD xs lo hi))
  | _ => False
theorem DRs.cut {H : Hp} {U : Addr → Prop} {xs : List V} {ds : List D} (h : DRs E H U xs ds) (lo hi : Option Int) : DRs E H U (cutV xs lo hi) (cutD ds lo hi) := by
  unfold cutV cutD
  rw [h.length]
  exact (h.drop _).take _
theorem cut_whole {xs : List D} {lo hi : Option Int} (h : HT.sIx xs.length 0 lo = 0 ∧ HT.sIx xs.length xs.length hi = xs.length) : cutD xs lo hi = xs := by
  unfold cutD
  rw [h.1, h.2, List.drop_zero, Nat.sub_zero, List.take_length]
def rSlD (E : En) : V → Option Int → Option Int → Hp → VK → Prop := fun x lo hi H Q => ∃ U d, (∀ a, U a → Mut (H a)) ∧ VW E H U x d ∧ dSl d lo hi fun z => ∀ v H', Ex H H' → DR E H' U v z → Q v H'
theorem s_sl : SlR X (rSlD (en X)) := by
  intro pins s σ H x v vl vu lo hi sl Q I rx hs pl pu ⟨U, d, live, vx, q⟩
  unfold dSl at q
  split at q
  · obtain ⟨a, xs, rfl, ha, dr⟩ := vx.lst
    exact sl_list pins s σ H _ v vl vu lo hi sl Q I rx hs pl pu ⟨a, xs, rfl, SqL.of ha, fun p hp => q _ _ (Ex.new hp) (.lst upd_same (nofr live hp) ((dr.cut lo hi).kp (Ex.new hp).kp))⟩
  · obtain ⟨a, xs, rfl, ha, dr⟩ := vx.tup
    cases rx
    obtain ⟨its, r, ht, hz⟩ := I.tuple ha.sq
    have hlen : its.toArray.size = xs.length := by rw [List.size_toArray]; exact r.length.symm
    refine ⟨"tuple", _, PyProof.Rows.slot_tuple_getitem.lookup, ht.typeIs, ?_⟩
    by_cases hw : HT.sIx xs.length 0 lo = 0 ∧ HT.sIx xs.length xs.length hi = xs.length
    · refine getItem_tuple_whole ht hs pl pu (by rw [hlen]; exact hw) ⟨.ref a, H, I, rfl, ?_⟩
      rw [dr.length] at hw
      rw [cut_whole hw] at q
      exact q _ H (Ex.refl H) (.tup ha (notup live ha) dr)
    · refine HT.getItem_tuple_cut ht hs pl pu (by rw [hlen]; exact hw) ?_ (by rw [hlen]; exact hz)
      rw [hlen]
      exact laid_tup (tk := s.toks) I ((r.drop (HT.sIx xs.length 0 lo)).take (HT.sIx xs.length xs.length hi - HT.sIx xs.length 0 lo)) (by rw [List.length_take, List.length_drop, ← r.length]; omega) (fun b ob q => Heap.get?_push_of_some _ q) (Nat.le_refl _) (Heap.get?_push_size _ rfl) fun o hn hd =>
        q _ _ (Ex.new hn) (.tup (tp_new hd) (nofr live hn) ((dr.cut lo hi).kp (Ex.new hn).kp))
  · exact q.elim
@[simp] def wSl (w : WV) (wl wh : WP) : WV := fun Γ Q => w Γ fun d => wl Γ fun lo => wh Γ fun hi => dSl d lo hi Q
@[simp] def wSlE (w : WE) (wl wh : WPE) : WE := fun Γ Q => w Γ fun d Γ1 => wl Γ1 fun lo Γ2 => wh Γ2 fun hi Γ3 => dSl d lo hi fun z => Q z Γ3
theorem m_sl {d : D} {lo hi : Option Int} {Q Q' : D → Prop} (h : ∀ z, Q z → Q' z) (q : dSl d lo hi Q) : dSl d lo hi Q' := by
  unfold dSl at *; split at q <;> first | exact h _ q | exact q.elim
variable {lo hi : Option Expr}
theorem qf_slice {w : WV} {wl wh : WP} (he : QV X P e w) (hl : PO X lo (jP (en X) P wl)) (hu : PO X hi (jP (en X) P wh)) : QF X P (.Subscript e (.Slice lo hi none p2) pos) (wSl w wl wh) := pe_imp (pe_slice s_sl he hl hu) fun σ H Q' ⟨U, fp, Γ, Q, r, q, k⟩ =>
  ⟨U, fp, Γ, _, r, q, fun v H1 d e1 vx q1 => ⟨U, fp, Γ, _, r.ex e1, q1, fun lo H2 e2 q2 => ⟨U, fp, Γ, _, r.ex (e1.trans e2), q2, fun hi H3 e3 q3 => ⟨U, d, (r.ex ((e1.trans e2).trans e3)).live, (vx.ex e2).ex e3, m_sl (fun z hz v H4 e4 dr => k _ _ _ (((e1.trans e2).trans e3).trans e4) dr hz) q3⟩⟩⟩⟩
theorem qe_slice {w : WE} {wl wh : WPE} (he : QE X P e w) (hl : PO X lo (jPE (en X) P wl)) (hu : PO X hi (jPE (en X) P wh)) : QE X P (.Subscript e (.Slice lo hi none p2) pos) (wSlE w wl wh) := pe_imp (pe_slice s_sl he hl hu) fun σ H Q' ⟨U, fp, Γ, Q, r, q, k⟩ =>
  ⟨U, fp, Γ, _, r, q, fun v H1 U1 fp1 Γ1 d s1 r1 dx q1 => ⟨U1, fp1, Γ1, _, r1, q1, fun lo H2 U2 fp2 Γ2 s2 r2 q2 => ⟨U2, fp2, Γ2, _, r2, q2, fun hi H3 U3 fp3 Γ3 s3 r3 q3 =>
    ⟨U3, d, r3.live, ((dx.kp (s2.kp r1)).kp (s3.kp r2)).vw, m_sl (fun z hz v H4 e4 dr => k _ _ U3 fp3 Γ3 _ (((r.trans s1 s2).trans r.sub r.live s3).trans r.sub r.live e4.step) (r3.ex e4) dr hz) q3⟩⟩⟩⟩

/-! ### methods that read, of built-in types -/
def tyN : D → String
  | .none => "NoneType"
  | .bool _ => "bool"
  | .int _ => "int"
  | .str _ => "str"
  | .list _ => "list"
  | .tuple _ => "tuple"
  | .dict _ => "dict"
theorem ty_ok {pins : List (Addr × Obj)} {σ : L2.St} {H : Hp} {s : Shared} {U : Addr → Prop} (I : Inv X pins σ H s) {v : V} {d : D} {u : Value} (h : VW (en X) H U v d) (r : RelV v u) (hd : isNone d = false ∧ (∀ b, d ≠ .bool b)) : s.TypeIs u (tyN d) ∧ ∀ a, u = .ref a → ∃ ob, s.heap.get? a = some ob ∧ ob.dict = none := by
  cases d with
  | none => cases hd.1
  | bool b => exact absurd rfl (hd.2 b)
  | int i => cases h.int; obtain ⟨t, rfl⟩ := r; exact ⟨typeIs_int s i t, fun _ e => nomatch e⟩
  | str x => cases h.str; obtain ⟨t, rfl⟩ := r; exact ⟨typeIs_str s x t, fun _ e => nomatch e⟩
  | list xs =>
    obtain ⟨a, ys, rfl, ha, dr⟩ := h.lst
    cases r
    obtain ⟨its, rv, ⟨o, n, ho, hc, hd, _⟩, _⟩ := I.list (SqL.of ha)
    refine ⟨⟨o, ho, hc⟩, fun a e => ?_⟩
    cases e
    exact ⟨o, ho, hd⟩
  | tuple xs =>
    obtain ⟨a, ys, rfl, ⟨ob, e, hd⟩, dr⟩ := h.tup
    cases r
    obtain ⟨ho, _, its, rv, o, ho2, hc, n, hdat⟩ := I.hok a _ e
    rw [ho] at ho2
    cases ho2
    refine ⟨⟨ob, ho, hc⟩, fun a e => ?_⟩
    cases e
    exact ⟨ob, ho, hd⟩
  | dict kvs =>
    rcases h.dict with ⟨a, ks, vs, rfl, ha, rfl, dr⟩ | ⟨a, es, vs, rfl, ha, dp, rfl, dk, dr⟩
    · cases r
      obtain ⟨us, at1⟩ := atomAt I ha
      obtain ⟨o, _, _, ho, hx, _⟩ := at1.dd
      refine ⟨⟨o, ho, hx.1⟩, fun a e => ?_⟩
      cases e
      exact ⟨o, ho, hx.2.1⟩
    · cases r
      obtain ⟨us, at1⟩ := nestAt I ha dp dk
      obtain ⟨o, _, _, ho, hx, _⟩ := at1.dd
      refine ⟨⟨o, ho, hx.1⟩, fun a e => ?_⟩
      cases e
      exact ⟨o, ho, hx.2.1⟩
theorem tyN_ok {T : String} {d : D} (hT : T = "list" ∨ T = "tuple" ∨ T = "dict" ∨ T = "str") (ht : tyN d = T) : isNone d = false ∧ ∀ b, d ≠ .bool b := by
  subst ht
  cases d with
  | none => rcases hT with h | h | h | h <;> exact absurd (show ("NoneType" : String) = _ from h) (by decide)
  | bool b => rcases hT with h | h | h | h <;> exact absurd (show ("bool" : String) = _ from h) (by decide)
  | _ => exact ⟨rfl, fun b z => nomatch z⟩
/-- a method that reads: its receiver, its arguments -/
abbrev Dm := D → List D → (D → Prop) → Prop
def rm (E : En) (T : String) (f : Dm) : V → List V → Hp → VK → Prop := fun x xs H Q' => ∃ U d ds, (∀ a, U a → Mut (H a)) ∧ VW E H U x d ∧ tyN d = T ∧ DRs E H U xs ds ∧ f d ds fun z => ∀ v H', Ex H H' → DR E H' U v z → Q' v H'
abbrev Monom (f : Dm) : Prop := ∀ d ds (Q Q' : D → Prop), (∀ z, Q z → Q' z) → f d ds Q → f d ds Q'
@[simp] def wm (T : String) (f : Dm) (wo : WV) (w : WA) : WV := fun Γ Q => wo Γ fun d => tyN d = T ∧ w Γ fun ds => f d ds Q
/-- the reading of a method call with arguments -/
def tMt (T : String) (r : V → List V → Hp → VK → Prop) (ty : V → Hp → Prop) (to : TE) (t : TA) : TE := fun σ H Q => to σ H fun x H1 => ty x H1 ∧ t σ H1 fun xs H2 => r x xs H2 Q
theorem pe_bmG {T id : String} {name : Str} {o : Expr} {to : TE} {t : TA} {r : V → List V → Hp → VK → Prop} {ty : V → Hp → Prop} {apos cpos : Pos} (htyp : ∀ (pins : List (Addr × Obj)) (σ : L2.St) (H : Hp) (s : Shared) (x : V) (v : Value), Inv X pins σ H s → RelV x v → ty x H → s.TypeIs v T ∧ ∀ a, v = .ref a → ∃ ob, s.heap.get? a = some ob ∧ ob.dict = none)
    (pa : PlainAttrs T) (slot : Slot T name id) (hty : typeOf (.builtin id) = pure (.type "method_descriptor")) (hm : MtR X id r) (ho : PE X o to) (ha : PA X (e :: es) t)
    (hbase : attributeBase o name X.env (eval o X.env) = eval o X.env := by rfl)
    (hfew : ((backTo cpos (starEach (e :: es) X.env)).all (fun x => !x.1) && (backToKw cpos (keywordEach [] X.env)).all (fun x => x.1.isSome)
      && decide ((e :: es).length + ([] : List Keyword).length + (if ([] : List Keyword).isEmpty then 0 else 1) < 30)) = true := by rfl)
    (hline : (apos.endLine == cpos.line) = true := by rfl) (hs : starEach (e :: es) X.env = (false, eval e X.env) :: starEach es X.env := by rfl) (hplain : (backTo cpos (starEach es X.env)).any (·.1) = false := by rfl) :
    PE X (.Call (.Attribute o name apos) (e :: es) [] cpos) (tMt T r ty to t) := by
  refine ⟨fun pins s σ H Q I h => ?_⟩
  refine wpAny_Call_method_late hbase hfew hline rfl (thn (ho.run pins s σ H _ I h) fun v s1 ⟨x, H1, I1, r1, ty, q1⟩ => ?_)
  obtain ⟨h1, h2⟩ := htyp _ _ _ _ _ _ I1 r1 ty
  refine ⟨T, id, pa, slot, hty, h1, h2, ?_⟩
  have hA := ha.run cpos pins s1 σ H1 _ I1 q1
  rw [hs] at hA ⊢
  refine Calls.callWith_builtin (by show (false || (backTo cpos (starEach es X.env)).any (·.1)) = false; rw [hplain] <;> rfl) (Calls.evalArgs_plain ?_)
  exact thn hA fun us s2 ⟨vs, H2, I2, r2, q2⟩ => hm pins s2 σ H2 x vs v us Q I2 r1 r2 q2
theorem pe_bmG0 {T id : String} {name : Str} {o : Expr} {to : TE} {r : V → List V → Hp → VK → Prop} {ty : V → Hp → Prop} {apos cpos : Pos} (htyp : ∀ (pins : List (Addr × Obj)) (σ : L2.St) (H : Hp) (s : Shared) (x : V) (v : Value), Inv X pins σ H s → RelV x v → ty x H → s.TypeIs v T ∧ ∀ a, v = .ref a → ∃ ob, s.heap.get? a = some ob ∧ ob.dict = none)
    (pa : PlainAttrs T) (slot : Slot T name id) (hty : typeOf (.builtin id) = pure (.type "method_descriptor")) (hm : MtR X id r) (ho : PE X o to)
    (hbase : attributeBase o name X.env (eval o X.env) = eval o X.env := by rfl) (hline : (apos.endLine == cpos.line) = true := by rfl) : PE X (.Call (.Attribute o name apos) [] [] cpos) (tMt T r ty to tNil) := by
  refine ⟨fun pins s σ H Q I h => ?_⟩
  refine wpAny_Call_method0_late hbase hline (thn (ho.run pins s σ H _ I h) fun v s1 ⟨x, H1, I1, r1, ty, q1⟩ => ?_)
  obtain ⟨h1, h2⟩ := htyp _ _ _ _ _ _ I1 r1 ty
  exact ⟨T, id, pa, slot, hty, h1, h2, Calls.callWith_builtin rfl (PySem.evalArgs_none (hm pins s1 σ H1 x [] v [] Q I1 r1 .nil q1))⟩
def tyD (X : Cx) (T : String) : V → Hp → Prop := fun x H => ∃ U d, VW (en X) H U x d ∧ tyN d = T ∧ isNone d = false ∧ ∀ b, d ≠ .bool b
theorem tyD_ok {T : String} (pins : List (Addr × Obj)) (σ : L2.St) (H : Hp) (s : Shared) (x : V) (v : Value) (I : Inv X pins σ H s) (r : RelV x v) (h : tyD X T x H) : s.TypeIs v T ∧ ∀ a, v = .ref a → ∃ ob, s.heap.get? a = some ob ∧ ob.dict = none := by
  obtain ⟨U, d, vx, rfl, hd⟩ := h
  exact ty_ok I vx r hd
theorem qf_mt {T id : String} {name : Str} {o : Expr} {f : Dm} {wo : WV} {w : WA} {apos : Pos} (m : Monom f) (pa : PlainAttrs T) (slot : Slot T name id) (hty : typeOf (.builtin id) = pure (.type "method_descriptor")) (hm : MtR X id (rm (en X) T f)) (hT : T = "list" ∨ T = "tuple" ∨ T = "dict" ∨ T = "str") (ho : QV X P o wo) (ha : QAF X P (e :: es) w)
    (hbase : attributeBase o name X.env (eval o X.env) = eval o X.env := by rfl)
    (hfew : ((backTo pos (starEach (e :: es) X.env)).all (fun x => !x.1) && (backToKw pos (keywordEach [] X.env)).all (fun x => x.1.isSome)
      && decide ((e :: es).length + ([] : List Keyword).length + (if ([] : List Keyword).isEmpty then 0 else 1) < 30)) = true := by rfl)
    (hline : (apos.endLine == pos.line) = true := by rfl) (hs : starEach (e :: es) X.env = (false, eval e X.env) :: starEach es X.env := by rfl) (hplain : (backTo pos (starEach es X.env)).any (·.1) = false := by rfl) :
    QF X P (.Call (.Attribute o name apos) (e :: es) [] pos) (wm T f wo w) := pe_imp (pe_bmG tyD_ok pa slot hty hm ho ha hbase hfew hline hs hplain) fun σ H Q' ⟨U, fp, Γ, Q, r, q, k⟩ =>
  ⟨U, fp, Γ, _, r, q, fun v H1 d e1 vx ⟨ht, q1⟩ => ⟨⟨U, d, vx, ht, tyN_ok hT ht⟩,
    U, fp, Γ, _, r.ex e1, q1, fun vs H2 ds e2 vws q2 => ⟨U, d, ds, (r.ex (e1.trans e2)).live, vx.ex e2, ht, vws, m _ _ _ _ (fun z hz v H3 e3 dr => k v H3 z ((e1.trans e2).trans e3) dr hz) q2⟩⟩⟩

/-! d.get(k, x) -/
def dGet2 : Dm := fun d ds Q => match d, ds with
  | .dict kvs, [k, z] => keyOk kvs k = true ∧ Q ((lookD kvs k).getD z)
  | _, _ => False
theorem m_get2 : Monom dGet2 := fun d ds Q Q' h q => by
  unfold dGet2 at *; split at q <;> first | exact ⟨q.1, h _ q.2⟩ | exact q.elim
theorem DRs.one {H : Hp} {U : Addr → Prop} {xs : List V} {d : D} (h : DRs E H U xs [d]) : ∃ x, xs = [x] ∧ DR E H U x d := by
  cases h with
  | cons r t => cases t; exact ⟨_, rfl, r⟩
theorem DRs.two {H : Hp} {U : Addr → Prop} {xs : List V} {d e : D} (h : DRs E H U xs [d, e]) : ∃ x y, xs = [x, y] ∧ DR E H U x d ∧ DR E H U y e := by
  cases h with
  | cons r t => cases t with
    | cons r2 t => cases t; exact ⟨_, _, rfl, r, r2⟩
theorem t_get2 (hu : X.A.units + 64 < cLine) : MtR X "dict.get" (rm (en X) "dict" dGet2) := by
  intro pins s σ H x xs v us Q I rx rs ⟨U, d, ds, live, vx, ht, vs, q⟩
  unfold dGet2 at q
  split at q
  · obtain ⟨y, z, rfl, vy, vz⟩ := vs.two
    obtain ⟨u, w', rfl, ry, rz⟩ := vals2 rs
    obtain ⟨q1, q⟩ := q
    rcases dview I vx vy.vw q1 ry with ⟨rfl, rfl, rfl, at1, rfl, dr⟩ | ⟨rfl, rfl, rfl, rfl, ki, at1, rfl, dr⟩
    · rename_i a key kvs us vs
      cases rx
      refine call_meetsIn PySem.F.slot_dict_get at1.dd.typeIs PySem.F.entry_dict_get (PySem.F.args_dict_get_3 _ _ _) (meets_dict_get_default (mixKind X.prog X.w) a (kV_is ry) at1.sm w') ⟨_, at1.dd.mapOf, ?_⟩
      rcases lookK dr key with ⟨w, d', h1, h2, h3⟩ | ⟨h1, h2⟩
      · obtain ⟨w2, hw, rw'⟩ := RelO.some_of (v := w) (o := valueAt us key) (by rw [← h1]; exact at1.kv.val key)
        rw [hw]
        rw [h2] at q
        exact ⟨w, H, I.tok _, rw', q _ H (Ex.refl H) h3⟩
      · have hn : valueAt us key = none := RelO.none_of (by rw [← h1]; exact at1.kv.val key)
        rw [hn]
        rw [h2] at q
        exact ⟨z, H, I.tok _, rz, q _ H (Ex.refl H) vz⟩
    · rename_i a b nk es us vs
      cases rx
      refine call_meetsIn PySem.F.slot_dict_get at1.dd.typeIs PySem.F.entry_dict_get (PySem.F.args_dict_get_3 _ _ _) (meetsH_dict_get_default (nestedKind X.prog X.w) a b at1.sm w') ⟨room8 hu, nk, us, ki, at1.dd, ?_⟩
      rcases lookN at1.kv dr nk with ⟨p, w, d', h1, h2, h3, h4⟩ | ⟨h1, h2⟩
      · rw [h1]
        rw [h3] at q
        exact ⟨w, H, I.tok _, h2, q _ H (Ex.refl H) h4⟩
      · rw [h1]
        rw [h2] at q
        exact ⟨z, H, I.tok _, rz, q _ H (Ex.refl H) vz⟩
  · exact q.elim
/-! xs.index(y), found -/
def dIndex : Dm := fun d ds Q => match d, ds with
  | .list xs, [y] => (plD y ∧ PyData.plainAll xs = true ∧ PyData.depthAll xs ≤ 50 ∧ anyD xs y = true) ∧ Q (.int (xs.findIdx fun z => PyData.eqv z y))
  | .tuple xs, [y] => (plD y ∧ PyData.plainAll xs = true ∧ PyData.depthAll xs ≤ 50 ∧ anyD xs y = true) ∧ Q (.int (xs.findIdx fun z => PyData.eqv z y))
  | _, _ => False
theorem m_index : Monom dIndex := fun d ds Q Q' h q => by
  unfold dIndex at *; split at q <;> first | exact ⟨q.1, h _ q.2⟩ | exact q.elim
theorem idx_find (f : D → Bool) : ∀ xs : List D, (xs.map f).idxOf true = xs.findIdx f
  | [] => rfl
  | x :: xs => by
    rw [List.map_cons, List.idxOf_cons, List.findIdx_cons, idx_find f xs]
    cases f x <;> rfl
theorem readsAll_get {h : Heap} : ∀ {us : List Value} {ds : List D} {as : List Addr}, ReadsAll h us ds as → ∀ (j : Nat) (h1 : j < us.length) (h2 : j < ds.length), ∃ bs, Reads h us[j] ds[j] bs
  | _, _, _, .nil, j, h1, _ => by simp at h1
  | _, _, _, .cons r t, 0, _, _ => ⟨_, r⟩
  | _, _, _, .cons r t, j + 1, h1, h2 => readsAll_get t j (by simpa using h1) (by simpa using h2)
theorem plain_mem {ds : List D} (h : PyData.plainAll ds = true) : ∀ d ∈ ds, d.plain = true := by
  induction ds with
  | nil => exact fun _ m => nomatch m
  | cons x xs ih =>
    simp only [PyData.plainAll, Bool.and_eq_true] at h
    intro d m
    rcases List.mem_cons.mp m with rfl | m
    · exact h.1
    · exact ih h.2 d m
theorem items_eq {s : Shared} {A : Around} {us : List Value} {xs : List D} {as bs : List Addr} {x : Value} {d : D} (ra : ReadsAll s.heap us xs as) (rx : Reads s.heap x d bs) (p : PyData.plainAll xs = true) (dp : PyData.depthAll xs ≤ 50) (pd : d.plain = true) (hl : us.length = xs.length) (hu : A.units + 51 < cLine) :
    PySem.SeqAt.ItemsEq A s us (xs.map fun z => PyData.eqv z d) x true := by
  refine ⟨by rw [List.length_map]; exact hl, fun j h1 h2 => ?_⟩
  have h3 : j < xs.length := by simpa using h2
  obtain ⟨cs, r⟩ := readsAll_get ra j h1 h3
  have hm : xs[j] ∈ xs := List.getElem_mem h3
  have hd := depth_mem hm
  have e : decide ((xs.map fun z => PyData.eqv z d)[j] = true) = PyData.eqv xs[j] d := by
    rw [List.getElem_map]
    cases PyData.eqv xs[j] d <;> rfl
  rw [e]
  exact SeqAt.eqAt_plain _ _ A s _ _ _ _ r rx (plain_mem p _ hm) pd (by omega)
end
end L3
set_option Elab.async false
set_option linter.all false
set_option maxRecDepth 100000
namespace L3
open PySem PySem.Spec PyProof.Rows L2

section
variable {X : Cx} {P : Pn} {e a b : Expr} {es : List Expr} {pos p : Pos} {E : En}

/-! ## owned to data, loud to quiet -/
theorem OR.fz {H : Hp} {U : Addr → Prop} {v : V} {o : O} {fo : List Addr} {d : D} (h : OR E H U v o fo) (e : o.view = some d) : DR E H (fun a => U a ∧ a ∉ fo) v d := by
  cases h with
  | dat r =>
    cases e
    obtain ⟨ns, r, k⟩ := r
    exact ⟨ns, r, fun a m => ⟨fun z => (k a m).1 z.1, (k a m).2⟩⟩
  | lst q r =>
    cases e
    obtain ⟨ns, r, k⟩ := r.rd
    refine ⟨_, .lst q r, fun a m => ?_⟩
    rcases List.mem_cons.mp m with rfl | m
    · exact ⟨fun z => z.2 List.mem_cons_self, by rw [q]; exact fun z => nomatch z⟩
    · exact ⟨fun z => (k a m).1 z.1, (k a m).2⟩
  | dicK q z r =>
    cases e
    obtain ⟨ns, r, k⟩ := r.rd
    refine ⟨_, .dicK q z r, fun a m => ?_⟩
    rcases List.mem_cons.mp m with rfl | m
    · exact ⟨fun z => z.2 List.mem_cons_self, by rw [q]; exact fun z => nomatch z⟩
    · exact ⟨fun z => (k a m).1 z.1, (k a m).2⟩
  | dicN q dp z r r2 =>
    cases e
    obtain ⟨ns, r, k⟩ := r.rd
    obtain ⟨ms, r2, k2⟩ := r2.rd
    refine ⟨_, .dicN q dp z r r2, fun a m => ?_⟩
    rcases List.mem_cons.mp m with rfl | m
    · exact ⟨fun z => z.2 List.mem_cons_self, by rw [q]; exact fun z => nomatch z⟩
    · rcases List.mem_append.mp m with m | m
      · exact ⟨fun z => (k a m).1 z.1, (k a m).2⟩
      · exact ⟨fun z => (k2 a m).1 z.1, (k2 a m).2⟩
  | scrF _ => cases e
  | scrK _ => cases e
  | ins _ _ _ => cases e
  | lsO _ _ => cases e
  | dcK _ _ _ => cases e
  | dcN _ _ _ _ _ => cases e
/-- a part of the owned is let go -/
theorem REL.less {U : Addr → Prop} {fp fo : List Addr} {Γ : Gm} {σ : L2.St} {H : Hp} (r : REL E P U fp Γ σ H) (nd : (fo ++ fp).Nodup) : REL E P (fun a => U a ∧ a ∉ fo) fp Γ σ H := by
  have dj := List.nodup_append.mp nd
  refine ⟨r.slots.kp ⟨fun a o _ q => q, fun a z => .inl z.1, fun _ _ _ q => q⟩ fun a _ o q => q, r.nodup, fun a m => ⟨r.sub a m, fun m2 => dj.2.2 a m2 a m rfl⟩, fun a u => r.live a u.1, r.pins⟩
theorem Step.less {U U' : Addr → Prop} {fp fo fp' : List Addr} {H H' : Hp} (live : ∀ a, U a → Mut (H a)) (s : Step U fp H U' (fo ++ fp') H') : Step U fp H (fun a => U' a ∧ a ∉ fo) fp' H' := by
  refine ⟨s.keep, fun a m => s.own a (List.mem_append_right _ m), fun a u => s.uni a u.1, fun a u m => ⟨s.forn a u m, fun m2 => ?_⟩⟩
  rcases s.own a (List.mem_append_left _ m2) with z | z
  · exact m z
  · exact mut_some (live a u) z
@[simp] def wFz (w : WO) : WE := fun Γ Q => w Γ fun o Γ1 => ofO o.view fun d => Q d Γ1
theorem qe_fz {w : WO} (h : QO X P e w) : QE X P e (wFz w) := pe_imp h fun σ H Q' ⟨U, fp, Γ, Q, r, q, k⟩ => ⟨U, fp, Γ, _, r, q, fun v H' U' fp' Γ' o fo s1 r1 ho nd sb q1 => by
  obtain ⟨d, hd, q1⟩ := ofO_some q1
  exact k v H' _ fp' Γ' d (Step.less r.live s1) (r1.less nd) (ho.fz hd) q1⟩
@[simp] def wDt (w : WE) : WO := fun Γ Q => w Γ fun d Γ1 => Q (.dat d) Γ1
theorem qo_qe {w : WE} (h : QE X P e w) : QO X P e (wDt w) := pe_imp h fun σ H Q' ⟨U, fp, Γ, Q, r, q, k⟩ => ⟨U, fp, Γ, _, r, q, fun v H' U' fp' Γ' d s1 r1 hd q1 =>
  k v H' U' fp' Γ' (.dat d) [] s1 r1 (.dat hd) (by rw [List.nil_append]; exact r1.nodup) (fun a m => nomatch m) q1⟩
/-- own slots are forgotten -/
def er1 : Option O → Option O
  | some (.dat d) => some (.dat d)
  | some (.scr ns) => some (.scr ns)
  | _ => none
def er (Γ : Gm) : Gm := Γ.map er1
theorem SR.er {H : Hp} {U : Addr → Prop} : ∀ {σ : L2.St} {Γ : Gm} {fp : List Addr}, SR E H U σ Γ fp → SR E H U σ (er Γ) []
  | _, _, _, .nil => .nil
  | _, _, _, .no t => .no (SR.er t)
  | _, _, _, .yes (o := o) r t => by
    cases r with
    | dat r => exact .yes (.dat r) (SR.er t)
    | scrF h => exact .yes (.scrF h) (SR.er t)
    | scrK h => exact .yes (.scrK h) (SR.er t)
    | lst _ _ => exact .no (SR.er t)
    | dicK _ _ _ => exact .no (SR.er t)
    | dicN _ _ _ _ _ => exact .no (SR.er t)
    | ins _ _ _ => exact .no (SR.er t)
    | lsO _ _ => exact .no (SR.er t)
    | dcK _ _ _ => exact .no (SR.er t)
    | dcN _ _ _ _ _ => exact .no (SR.er t)
theorem REL.er {U : Addr → Prop} {fp : List Addr} {Γ : Gm} {σ : L2.St} {H : Hp} (r : REL E P U fp Γ σ H) : REL E P U [] (L3.er Γ) σ H where
  slots := r.slots.er
  nodup := List.nodup_nil
  sub := fun a m => nomatch m
  live := r.live
  pins := r.pins
@[simp] def wDn (w : WE) : WV := fun Γ Q => w (er Γ) fun d _ => Q d
theorem Step.ex {U U' : Addr → Prop} {fp' : List Addr} {H H' : Hp} (s : Step U [] H U' fp' H') : Ex H H' := fun a o q => s.keep a o q fun m => nomatch m
theorem qf_dn {w : WE} (h : QE X P e w) : QF X P e (wDn w) := pe_imp h fun σ H Q' ⟨U, fp, Γ, Q, r, q, k⟩ => ⟨U, [], er Γ, _, r.er, q, fun v H' U' fp' Γ' d s1 r1 hd q1 =>
  k v H' d s1.ex (hd.mono (fun a o _ q => q) fun a u => .inl (s1.forn a u fun m => nomatch m)) q1⟩
@[simp] def wDnT (w : WTE) : WT := fun Γ Q => w (er Γ) fun d _ => Q d
theorem qt_dn {w : WTE} (h : QTE X P e w) : QT X P e (wDnT w) := pt_imp h fun σ H Q' ⟨U, fp, Γ, Q, r, q, k⟩ => ⟨U, [], er Γ, _, r.er, q, fun b H' U' fp' Γ' s1 r1 q1 => k b H' s1.ex q1⟩

/-! ## a slot's thing is changed -/
theorem set_same {σ : L2.St} {i : Nat} {v : V} (h : σ[i]? = some (some v)) : σ.set i (some v) = σ := by
  apply List.ext_getElem?
  intro j
  by_cases e : i = j
  · subst e
    obtain ⟨hl, _⟩ := List.getElem?_eq_some_iff.mp h
    rw [List.getElem?_set_self hl, h]
  · rw [List.getElem?_set_ne e]
theorem REL.mod {U : Addr → Prop} {fp : List Addr} {Γ : Gm} {σ : L2.St} {H : Hp} {i : Nat} {o : O} (r : REL E P U fp Γ σ H) (hi : Γ[i]? = some (some o)) :
    ∃ v fo, σ[i]? = some (some v) ∧ OR E H U v o fo ∧ fo.Nodup ∧ (∀ a ∈ fo, U a) ∧ ∀ U' H' o' fr fo', Step U fo H U' (fr ++ fo') H' → OR E H' U' v o' fo' → (fr ++ fo').Nodup → (∀ a ∈ fr ++ fo', U' a) → (∀ a, U' a → Mut (H' a)) →
      ∃ fp', Step U fp H U' (fr ++ fp') H' ∧ REL E P U' fp' (Γ.set i (some o')) σ H' ∧ (fr ++ fp').Nodup := by
  obtain ⟨v, fo, f2, h1, h2, h3, pm⟩ := r.slots.out hi
  have nd : (fo ++ f2).Nodup := pm.nodup_iff.mp r.nodup
  have dj := List.nodup_append.mp nd
  refine ⟨v, fo, h1, h2, dj.1, fun a m => r.sub a (pm.mem_iff.mpr (List.mem_append_left _ m)), fun U' H' o' fr fo' s ho nd' sb live => ?_⟩
  have nf : ∀ a ∈ f2, a ∉ fo := fun a m m2 => dj.2.2 a m2 a m rfl
  have u2 : ∀ a ∈ f2, U a := fun a m => r.sub a (pm.mem_iff.mpr (List.mem_append_right _ m))
  have nf' : ∀ a ∈ f2, a ∉ fr ++ fo' := fun a m m2 => by
    rcases s.own a m2 with z | z
    · exact nf a m z
    · exact mut_some (r.live a (u2 a m)) z
  have kp : Kp H U H' U' := ⟨fun a q u e => s.keep a q e fun m => u (r.sub a (pm.mem_iff.mpr (List.mem_append_left _ m))), s.uni, fun a ob u e => s.keep a _ e fun m => by
    have q := h2.mut a m
    rw [e] at q; exact q⟩
  have h3' := h3.kp kp fun a m q e => s.keep a q e (nf a m)
  have hlen : i < Γ.length := (List.getElem?_eq_some_iff.mp hi).1
  obtain ⟨fp', rest, q1, q2, q3, q4⟩ := h3'.put (i := i) (v := v) (o := o') (by rw [List.length_set]; exact hlen) ho
  rw [set_same h1, List.set_set] at q1
  have er : rest = f2 := q4 (by rw [List.getElem?_set_self hlen])
  subst er
  have q2' : (fr ++ fp').Perm (fr ++ (fo' ++ rest)) := q2.append_left fr
  rw [← List.append_assoc] at q2'
  have ndA : ((fr ++ fo') ++ rest).Nodup := List.nodup_append.mpr ⟨nd', dj.2.1, fun a m b m2 e => by
    subst e; exact nf' a m2 m⟩
  have ndF : (fr ++ fp').Nodup := q2'.nodup_iff.mpr ndA
  refine ⟨fp', ⟨fun a q e m => s.keep a q e fun m2 => m (pm.mem_iff.mpr (List.mem_append_left _ m2)), fun a m => ?_, s.uni, fun a u m => s.forn a u fun m2 => m (pm.mem_iff.mpr (List.mem_append_left _ m2))⟩, ⟨q1, (List.nodup_append.mp ndF).2.1, fun a m => ?_, live, r.pins⟩, ndF⟩
  · rcases List.mem_append.mp (q2'.mem_iff.mp m) with m | m
    · rcases s.own a m with z | z
      · exact .inl (pm.mem_iff.mpr (List.mem_append_left _ z))
      · exact .inr z
    · exact .inl (pm.mem_iff.mpr (List.mem_append_right _ m))
  · rcases List.mem_append.mp (q2.mem_iff.mp m) with m | m
    · exact sb a (List.mem_append_right _ m)
    · exact s.forn a (u2 a m) (nf a m)
/-- the object at a, one of the slot's own, is written -/
theorem step_upd {U : Addr → Prop} {fo : List Addr} {H : Hp} {a : Addr} {q : HO} (m : a ∈ fo) : Step U fo H U fo (upd H a q) :=
  ⟨fun b o e n => by rw [upd_ne (show b ≠ a from fun z => n (by rw [z]; exact m))]; exact e, fun _ m => .inl m, fun _ u => .inl u, fun _ u _ => u⟩
theorem upd_live {U : Addr → Prop} {H : Hp} {a : Addr} {q : HO} (live : ∀ a, U a → Mut (H a)) (mq : Mut (some q)) : ∀ b, U b → Mut (upd H a q b) := fun b u => by
  by_cases e : b = a
  · subst e; rw [upd_same]; exact mq
  · rw [upd_ne e]; exact live b u
theorem upd_kp {U : Addr → Prop} {H : Hp} {a : Addr} {q : HO} (u : U a) (mu : Mut (H a)) : Kp H U (upd H a q) U :=
  ⟨fun b o n e => by rw [upd_ne (show b ≠ a from fun z => n (by rw [z]; exact u))]; exact e, fun _ u => .inl u, fun b ob w e => by
    rw [upd_ne]; · exact e
    rintro rfl
    rw [e] at mu; exact mu⟩
/-- a slot is filled with a thing that is no slot's -/
theorem REL.put {U : Addr → Prop} {fp fo : List Addr} {Γ : Gm} {σ : L2.St} {H : Hp} {i : Nat} {v : V} {o : O} (r : REL E P U fp Γ σ H) (hi : i < Γ.length) (hp : ∀ q ∈ P, q.1 ≠ i) (ho : OR E H U v o fo) (nd : (fo ++ fp).Nodup) (sb : ∀ a ∈ fo, U a) :
    ∃ fp', REL E P U fp' (Γ.set i (some o)) (σ.set i (some v)) H ∧ (∀ a ∈ fp', a ∈ fo ++ fp) ∧ (∀ a ∈ fo, a ∈ fp') := by
  obtain ⟨fp', rest, q1, q2, q3, _⟩ := r.slots.put hi ho
  have sub : ∀ a ∈ fp', a ∈ fo ++ fp := fun a m => by
    rcases List.mem_append.mp (q2.mem_iff.mp m) with m | m
    · exact List.mem_append_left _ m
    · exact List.mem_append_right _ (q3.subset m)
  refine ⟨fp', ⟨q1, q2.nodup_iff.mpr ((List.Sublist.append (List.Sublist.refl _) q3).nodup nd), fun a m => ?_, r.live, fun q hq => ?_⟩, sub, fun a m => q2.mem_iff.mpr (List.mem_append_left _ m)⟩
  · rcases List.mem_append.mp (sub a m) with m | m
    · exact sb a m
    · exact r.sub a m
  · rw [List.getElem?_set_ne (Ne.symm (hp q hq))]
    exact r.pins q hq
/-- fewer are owned by slots -/
theorem Step.sub {U U' : Addr → Prop} {fp fp' fp'' : List Addr} {H H' : Hp} (s : Step U fp H U' fp' H') (h : ∀ a ∈ fp'', a ∈ fp') : Step U fp H U' fp'' H' := ⟨s.keep, fun a m => s.own a (h a m), s.uni, s.forn⟩

/-! ## statements -/
structure DE where
  nx : Gm → Prop
  rt : O → Gm → Prop
  bk : Gm → Prop := fun _ => False
  ct : Gm → Prop := fun _ => False
abbrev WS := Gm → DE → Prop
structure EndsOk (E : En) (P : Pn) (U : Addr → Prop) (fp : List Addr) (H : Hp) (D : DE) (F : Ends) : Prop where
  nx : ∀ σ' H' U' fp' Γ', Step U fp H U' fp' H' → REL E P U' fp' Γ' σ' H' → D.nx Γ' → F.nx σ' H'
  bk : ∀ σ' H' U' fp' Γ', Step U fp H U' fp' H' → REL E P U' fp' Γ' σ' H' → D.bk Γ' → F.bk σ' H'
  ct : ∀ σ' H' U' fp' Γ', Step U fp H U' fp' H' → REL E P U' fp' Γ' σ' H' → D.ct Γ' → F.ct σ' H'
  rt : ∀ v σ' H' U' fp' Γ' o fo, Step U fp H U' (fo ++ fp') H' → REL E P U' fp' Γ' σ' H' → OR E H' U' v o fo → (fo ++ fp').Nodup → (∀ a ∈ fo, U' a) → D.rt o Γ' → F.rt v H'
def jS (E : En) (P : Pn) (w : WS) : TS := fun F σ H => ∃ U fp Γ D, REL E P U fp Γ σ H ∧ w Γ D ∧ EndsOk E P U fp H D F
abbrev QS (X : Cx) (P : Pn) (st : Stmt) (w : WS) : Prop := PS X st (jS (en X) P w)
abbrev QSs (X : Cx) (P : Pn) (st : List Stmt) (w : WS) : Prop := PSs X st (jS (en X) P w)
theorem EndsOk.step {U U' : Addr → Prop} {fp fp' : List Addr} {H H' : Hp} {D : DE} {F : Ends} {Γ : Gm} {σ : L2.St} (k : EndsOk E P U fp H D F) (r : REL E P U fp Γ σ H) (s : Step U fp H U' fp' H') : EndsOk E P U' fp' H' D F :=
  ⟨fun σ' H2 U2 fp2 Γ2 s2 => k.nx σ' H2 U2 fp2 Γ2 (r.trans s s2), fun σ' H2 U2 fp2 Γ2 s2 => k.bk σ' H2 U2 fp2 Γ2 (r.trans s s2), fun σ' H2 U2 fp2 Γ2 s2 => k.ct σ' H2 U2 fp2 Γ2 (r.trans s s2),
    fun v σ' H2 U2 fp2 Γ2 o fo s2 => k.rt v σ' H2 U2 fp2 Γ2 o fo (r.trans s s2)⟩
@[simp] def sNx : WS := fun Γ D => D.nx Γ
@[simp] def sSeq (w u : WS) : WS := fun Γ D => w Γ { D with nx := fun Γ1 => u Γ1 D }
theorem qss_nil : QSs X P [] sNx := pss_imp pss_nil fun F σ H ⟨U, fp, Γ, D, r, q, k⟩ => k.nx σ H U fp Γ .refl r q
theorem seq_j {w u : WS} : ∀ F σ H, jS E P (sSeq w u) F σ H → tSeq (jS E P w) (jS E P u) F σ H := fun F σ H ⟨U, fp, Γ, D, r, q, k⟩ =>
  ⟨U, fp, Γ, _, r, q, ⟨fun σ' H' U' fp' Γ' s r' q' => ⟨U', fp', Γ', D, r', q', k.step r s⟩, k.bk, k.ct, k.rt⟩⟩
theorem qss_cons {st : Stmt} {rest : List Stmt} {w u : WS} (h1 : QS X P st w) (h2 : QSs X P rest u) : QSs X P (st :: rest) (sSeq w u) := pss_imp (pss_cons h1 h2) seq_j
theorem qss_one {st : Stmt} {w : WS} (h : QS X P st w) : QSs X P [st] w := pss_one h
@[simp] def sBk : WS := fun Γ D => D.bk Γ
@[simp] def sCt : WS := fun Γ D => D.ct Γ
theorem qs_pass : QS X P (.Pass pos) sNx := ps_imp ps_pass fun F σ H ⟨U, fp, Γ, D, r, q, k⟩ => k.nx σ H U fp Γ .refl r q
theorem qs_break : QS X P (.Break pos) sBk := ps_imp ps_break fun F σ H ⟨U, fp, Γ, D, r, q, k⟩ => k.bk σ H U fp Γ .refl r q
theorem qs_continue : QS X P (.Continue pos) sCt := ps_imp ps_continue fun F σ H ⟨U, fp, Γ, D, r, q, k⟩ => k.ct σ H U fp Γ .refl r q
@[simp] def sEx (w : WE) : WS := fun Γ D => w Γ fun _ Γ1 => D.nx Γ1
theorem qs_expr {w : WE} (he : QE X P e w) (hs : swapsWith e none pos.line X.env = pure false := by rfl) : QS X P (.Expr e pos) (sEx w) := ps_imp (ps_expr he hs) fun F σ H ⟨U, fp, Γ, D, r, q, k⟩ =>
  ⟨U, fp, Γ, _, r, q, fun v H' U' fp' Γ' d s1 r1 _ q1 => k.nx σ H' U' fp' Γ' s1 r1 q1⟩
@[simp] def sRetO (w : WO) : WS := fun Γ D => w Γ D.rt
@[simp] def sRet (w : WE) : WS := fun Γ D => w Γ fun d Γ1 => D.rt (.dat d) Γ1
@[simp] def sRetN : WS := fun Γ D => D.rt (.dat .none) Γ
theorem qs_retO {w : WO} (he : QO X P e w) : QS X P (.Return (some e) pos) (sRetO w) := ps_imp (ps_ret he) fun F σ H ⟨U, fp, Γ, D, r, q, k⟩ =>
  ⟨U, fp, Γ, _, r, q, fun v H' U' fp' Γ' o fo s1 r1 ho nd sb q1 => k.rt v σ H' U' fp' Γ' o fo s1 r1 ho nd sb q1⟩
theorem qs_ret {w : WE} (he : QE X P e w) : QS X P (.Return (some e) pos) (sRet w) := ps_imp (ps_ret he) fun F σ H ⟨U, fp, Γ, D, r, q, k⟩ =>
  ⟨U, fp, Γ, _, r, q, fun v H' U' fp' Γ' d s1 r1 hd q1 => k.rt v σ H' U' fp' Γ' (.dat d) [] s1 r1 (.dat hd) (by rw [List.nil_append]; exact r1.nodup) (fun a m => nomatch m) q1⟩
theorem qs_retN : QS X P (.Return none pos) sRetN := ps_imp ps_retN fun F σ H ⟨U, fp, Γ, D, r, q, k⟩ =>
  k.rt _ σ H U fp Γ (.dat .none) [] .refl r (.dat .non) (by rw [List.nil_append]; exact r.nodup) (fun a m => nomatch m) q
@[simp] def sIf (c : WTE) (w u : WS) : WS := fun Γ D => c Γ fun b Γ1 => if b = true then w Γ1 D else u Γ1 D
theorem qs_if {c : Expr} {sa sb : List Stmt} {wc : WTE} {w u : WS} (hc : QTE X P c wc) (ha : QSs X P sa w) (hb : QSs X P sb u) : QS X P (.If c sa sb pos) (sIf wc w u) := ps_imp (ps_if hc ha hb) fun F σ H ⟨U, fp, Γ, D, r, q, k⟩ =>
  ⟨U, fp, Γ, _, r, q, fun b H' U' fp' Γ' s1 r1 q1 => by
    cases b with
    | true => exact ⟨U', fp', Γ', D, r1, by simpa using q1, k.step r s1⟩
    | false => exact ⟨U', fp', Γ', D, r1, by simpa using q1, k.step r s1⟩⟩
/-- name = value -/
@[simp] def sSet (i : Nat) (w : WE) : WS := fun Γ D => w Γ fun d Γ1 => D.nx (Γ1.set i (some (.dat d)))
@[simp] def sSetO (i : Nat) (w : WO) : WS := fun Γ D => w Γ fun o Γ1 => D.nx (Γ1.set i (some o))
theorem REL.len {U : Addr → Prop} {fp : List Addr} {Γ : Gm} {σ : L2.St} {H : Hp} (r : REL E P U fp Γ σ H) : σ.length = Γ.length := r.slots.length
theorem qs_setO {i : Nat} {x : Str} {w : WO} {pos' : Pos} (hN : X.N.Nodup) (hi : X.N[i]? = some x) (hx : Loc X.env.scope x) (he : QO X P e w) (hp : (P.all fun q => q.1 != i) = true := by rfl) (hs : swapsWith e (some (.Name x pos')) pos.line X.env = pure false := by rfl)
    (hf : X.fn x = true ∨ X.env.scope.names.lookup x = some .local := by first | exact .inl rfl | exact .inr rfl | assumption) : QS X P (.Assign [.Name x pos'] e pos) (sSetO i w) := by
  refine ⟨fun pins s σ H F I ⟨U, fp, Γ, D, r, q, k⟩ => (ps_set hN hi hx he hs hf).run pins s σ H F I ⟨U, fp, Γ, _, r, q, fun v H' U' fp' Γ' o fo s1 r1 ho nd sb q1 => ?_⟩⟩
  have hl : i < Γ'.length := by rw [← r1.len, I.len]; exact (List.getElem?_eq_some_iff.mp hi).1
  obtain ⟨fp2, r2, hsub, _⟩ := r1.put hl (fun q hq => by simpa using List.all_eq_true.mp hp q hq) ho nd sb
  exact k.nx _ H' U' fp2 _ (s1.sub hsub) r2 q1
theorem qs_set {i : Nat} {x : Str} {w : WE} {pos' : Pos} (hN : X.N.Nodup) (hi : X.N[i]? = some x) (hx : Loc X.env.scope x) (he : QE X P e w) (hp : (P.all fun q => q.1 != i) = true := by rfl) (hs : swapsWith e (some (.Name x pos')) pos.line X.env = pure false := by rfl)
    (hf : X.fn x = true ∨ X.env.scope.names.lookup x = some .local := by first | exact .inl rfl | exact .inr rfl | assumption) : QS X P (.Assign [.Name x pos'] e pos) (sSet i w) := qs_setO hN hi hx (qo_qe he) hp hs hf

/-! ## while -/
def sWhI (c : WTE) (w : WS) : Nat → WS
  | 0 => fun _ _ => False
  | n + 1 => fun Γ D => sWhI c w n Γ D ∨ c Γ fun b Γ1 => if b = true then w Γ1 { D with nx := fun Γ2 => sWhI c w n Γ2 D, ct := fun Γ2 => sWhI c w n Γ2 D, bk := D.nx } else D.nx Γ1
theorem whI_succ {c : WTE} {w : WS} {D : DE} {Γ : Gm} {n : Nat} (h : sWhI c w (n + 1) Γ D) : ∃ m, m ≤ n ∧ c Γ fun b Γ1 => if b = true then w Γ1 { D with nx := fun Γ2 => sWhI c w m Γ2 D, ct := fun Γ2 => sWhI c w m Γ2 D, bk := D.nx } else D.nx Γ1 := by
  induction n with
  | zero => exact ⟨0, Nat.le_refl _, h.resolve_left fun z => z⟩
  | succ n ih =>
    rcases h with h | h
    · obtain ⟨m, l, q⟩ := ih h
      exact ⟨m, Nat.le_succ_of_le l, q⟩
    · exact ⟨n + 1, Nat.le_refl _, h⟩
theorem whI_mono {c : WTE} {w : WS} {D : DE} {Γ : Gm} {m n : Nat} (l : m ≤ n) (h : sWhI c w m Γ D) : sWhI c w n Γ D := by
  induction l with
  | refl => exact h
  | step _ ih => exact .inl ih
def sWh (c : WTE) (w : WS) : WS := fun Γ D => ∃ n, sWhI c w n Γ D
theorem qs_while {c : Expr} {body : List Stmt} {wc : WTE} {w : WS} (hp : PassesOwn (model X.prog X.w) X.A X.env X.xe) (hc : QTE X P c wc) (hb : QSs X P body w) : QS X P (.While c body [] pos) (sWh wc w) := ps_imp (ps_while hp hc hb) fun F σ H ⟨U, fp, Γ, D, r, ⟨n, q⟩, k⟩ => by
  refine ⟨fun m σ' H' => ∃ U' fp' Γ', Step U fp H U' fp' H' ∧ REL _ P U' fp' Γ' σ' H' ∧ sWhI wc w m Γ' D, ⟨n, U, fp, Γ, .refl, r, q⟩, ?_⟩
  rintro m σ1 H1 ⟨U1, fp1, Γ1, s1, r1, q1⟩
  cases m with
  | zero => exact False.elim q1
  | succ m =>
    obtain ⟨m, lm, q1⟩ := whI_succ q1
    refine ⟨U1, fp1, Γ1, _, r1, q1, fun b H2 U2 fp2 Γ2 s2 r2 q2 => ?_⟩
    have s12 := r.trans s1 s2
    cases b with
    | true =>
      rw [if_pos rfl] at q2
      dsimp only
      rw [if_pos rfl]
      refine ⟨fun σ' H' => ∃ U' fp' Γ', Step U fp H U' fp' H' ∧ REL _ P U' fp' Γ' σ' H' ∧ sWhI wc w m Γ' D, fun σ' H' h => ⟨m, Nat.lt_succ_of_le lm, h⟩, U2, fp2, Γ2, _, r2, q2, ⟨?_, ?_, ?_, ?_⟩⟩
      · exact fun σ' H' U' fp' Γ' s3 r3 q3 => ⟨U', fp', Γ', r.trans s12 s3, r3, q3⟩
      · exact fun σ' H' U' fp' Γ' s3 r3 q3 => k.nx σ' H' U' fp' Γ' (r.trans s12 s3) r3 q3
      · exact fun σ' H' U' fp' Γ' s3 r3 q3 => ⟨U', fp', Γ', r.trans s12 s3, r3, q3⟩
      · exact fun v σ' H' U' fp' Γ' o fo s3 => k.rt v σ' H' U' fp' Γ' o fo (r.trans s12 s3)
    | false =>
      rw [if_neg (by decide)] at q2
      dsimp only
      rw [if_neg (by decide)]
      exact k.nx σ1 H2 U2 fp2 Γ2 s12 r2 q2
/-- by a word and a measure -/
theorem wh_by {c : WTE} {w : WS} {Γ : Gm} {D : DE} (I : Gm → Prop) (μ : Gm → Nat) (h0 : I Γ)
    (h : ∀ (Γ : Gm) (K : Gm → Prop), I Γ → (∀ Γ2, I Γ2 → μ Γ2 < μ Γ → K Γ2) → c Γ fun b Γ1 => if b = true then w Γ1 { D with nx := K, ct := K, bk := D.nx } else D.nx Γ1) : sWh c w Γ D := by
  have key : ∀ n Γ, μ Γ < n → I Γ → sWhI c w n Γ D := by
    intro n
    induction n with
    | zero => exact fun Γ h => absurd h (Nat.not_lt_zero _)
    | succ n ih => exact fun Γ hl hI => .inr (h Γ (fun Γ2 => sWhI c w n Γ2 D) hI fun Γ2 i l => ih Γ2 (by omega) i)
  exact ⟨μ Γ + 1, key _ _ (Nat.lt_succ_self _) h0⟩
end
end L3
set_option Elab.async false
set_option linter.all false
set_option maxRecDepth 100000
namespace L3
open PySem PySem.Spec PyProof.Rows L2

/-! ## wiping -/
theorem wipe_get (σ : L2.St) (i : Nat) : ∀ vs : List Nat, (wipe σ vs)[i]? = if i ∈ vs then (σ[i]?).map fun _ => none else σ[i]?
  | [] => by simp [wipe]
  | v :: vs => by
    unfold wipe
    by_cases e : v = i
    · subst e
      by_cases hl : v < (wipe σ vs).length
      · rw [List.getElem?_set_self hl, if_pos List.mem_cons_self]
        rw [wipe_length] at hl
        rw [List.getElem?_eq_getElem hl]; rfl
      · have hl2 : ¬ v < σ.length := by rw [wipe_length] at hl; exact hl
        rw [List.getElem?_eq_none (by simpa using hl), List.getElem?_eq_none (by simpa using hl2)]
        simp
    · rw [List.getElem?_set_ne e, wipe_get σ i vs]
      have : (i ∈ v :: vs) ↔ i ∈ vs := by
        simp only [List.mem_cons]
        exact ⟨fun h => h.resolve_left fun z => e z.symm, .inr⟩
      simp only [this]
theorem wipe_wipe (σ : L2.St) (vs : List Nat) : wipe (wipe σ vs) vs = wipe σ vs := by
  apply List.ext_getElem?
  intro i
  rw [wipe_get, wipe_get]
  split
  · cases σ[i]? <;> rfl
  · rfl
theorem wipe_set {σ : L2.St} {i : Nat} {x : Option V} {vs : List Nat} (h : i ∈ vs) : wipe (σ.set i x) vs = wipe σ vs := by
  apply List.ext_getElem?
  intro j
  rw [wipe_get, wipe_get]
  by_cases e : i = j
  · subst e
    rw [if_pos h, if_pos h]
    by_cases hl : i < σ.length
    · rw [List.getElem?_set_self hl, List.getElem?_eq_getElem hl]; rfl
    · rw [List.getElem?_eq_none (by simpa using hl), List.getElem?_eq_none (by simpa using hl)]
  · rw [List.getElem?_set_ne e]
@[simp] def wipeG (Γ : Gm) : List Nat → Gm
  | [] => Γ
  | v :: vs => (wipeG Γ vs).set v none
@[simp] def keepDat : Option (Option O) → Option O
  | some (some (.dat d)) => some (.dat d)
  | _ => none
@[simp] def backG (Γ0 Γ : Gm) : List Nat → Gm
  | [] => Γ
  | v :: vs => (backG Γ0 Γ vs).set v (keepDat Γ0[v]?)
def backS (σ0 σ : L2.St) : List Nat → L2.St
  | [] => σ
  | v :: vs => (backS σ0 σ vs).set v (σ0[v]?.join)
theorem backS_eq {σ σ' : L2.St} : ∀ {vs : List Nat}, σ'.length = σ.length → (∀ i, i ∉ vs → σ'[i]? = σ[i]?) → backS σ σ' vs = σ
  | [], _, h => List.ext_getElem? fun i => h i (fun m => nomatch m)
  | v :: vs, hl, h => by
    have hlen : ∀ us : List Nat, (backS σ σ' us).length = σ'.length := fun us => by
      induction us with
      | nil => rfl
      | cons u us ih => unfold backS; rw [List.length_set, ih]
    have key : ∀ us : List Nat, ∀ i, (backS σ σ' us)[i]? = if i ∈ us then σ[i]? else σ'[i]? := fun us => by
      induction us with
      | nil => exact fun i => by simp [backS]
      | cons u us ih =>
        intro i
        unfold backS
        by_cases e : u = i
        · subst e
          rw [if_pos List.mem_cons_self]
          by_cases hu : u < σ.length
          · rw [List.getElem?_set_self (by rw [hlen, hl]; exact hu), List.getElem?_eq_getElem hu]; rfl
          · rw [List.getElem?_eq_none (by rw [List.length_set, hlen, hl]; simpa using hu), List.getElem?_eq_none (by simpa using hu)]
        · rw [List.getElem?_set_ne e, ih i]
          have : (i ∈ u :: us) ↔ i ∈ us := by
            simp only [List.mem_cons]
            exact ⟨fun h => h.resolve_left fun z => e z.symm, .inr⟩
          simp only [this]
    apply List.ext_getElem?
    intro i
    rw [key]
    split
    · rfl
    · rename_i hn; exact h i hn

section
variable {E : En} {P : Pn}
theorem SR.re {H : Hp} {U : Addr → Prop} {x : Option V} {o : Option O} (hx : o = none ∨ ∃ d v, o = some (.dat d) ∧ x = some v ∧ DR E H U v d) :
    ∀ {σ : L2.St} {Γ : Gm} {fp : List Addr} (i : Nat), SR E H U σ Γ fp → ∃ fp2, SR E H U (σ.set i x) (Γ.set i o) fp2 ∧ fp2.Sublist fp
  | _, _, _, _, .nil => ⟨[], .nil, List.Sublist.refl _⟩
  | _, _, fp, 0, .no t => by
    rcases hx with rfl | ⟨d, v, rfl, rfl, r⟩
    · exact ⟨fp, .no t, List.Sublist.refl _⟩
    · exact ⟨[] ++ fp, .yes (.dat r) t, List.Sublist.refl _⟩
  | _, _, _, 0, .yes (fp := fp) (fq := fq) r t => by
    rcases hx with rfl | ⟨d, v, rfl, rfl, r'⟩
    · exact ⟨fq, .no t, List.sublist_append_right _ _⟩
    · exact ⟨[] ++ fq, .yes (.dat r') t, List.sublist_append_right _ _⟩
  | _, _, _, i + 1, .no t => let ⟨fp2, h1, h2⟩ := SR.re hx i t; ⟨fp2, .no h1, h2⟩
  | _, _, _, i + 1, .yes (fp := fp) r t => let ⟨fp2, h1, h2⟩ := SR.re hx i t; ⟨fp ++ fp2, .yes r h1, List.Sublist.append (List.Sublist.refl _) h2⟩
theorem SR.wipe {H : Hp} {U : Addr → Prop} {σ : L2.St} {Γ : Gm} {fp : List Addr} (r : SR E H U σ Γ fp) : ∀ vs : List Nat, ∃ fp2, SR E H U (L2.wipe σ vs) (wipeG Γ vs) fp2 ∧ fp2.Sublist fp
  | [] => ⟨fp, r, List.Sublist.refl _⟩
  | v :: vs => by
    obtain ⟨f1, h1, h2⟩ := SR.wipe r vs
    obtain ⟨f2, h3, h4⟩ := SR.re (x := none) (o := none) (.inl rfl) v h1
    exact ⟨f2, h3, h4.trans h2⟩
abbrev NoPin (P : Pn) (vs : List Nat) : Prop := (P.all fun q => vs.all fun v => v != q.1) = true
theorem NoPin.ne (h : NoPin P vs) : ∀ q ∈ P, q.1 ∉ vs := fun q hq m => by
  have := List.all_eq_true.mp (List.all_eq_true.mp h q hq) q.1 m
  simp at this
theorem REL.wipe {U : Addr → Prop} {fp : List Addr} {Γ : Gm} {σ : L2.St} {H : Hp} (r : REL E P U fp Γ σ H) {vs : List Nat} (hp : NoPin P vs) : ∃ fp2, REL E P U fp2 (wipeG Γ vs) (L2.wipe σ vs) H ∧ ∀ a ∈ fp2, a ∈ fp := by
  obtain ⟨fp2, h1, h2⟩ := r.slots.wipe vs
  refine ⟨fp2, ⟨h1, h2.nodup r.nodup, fun a m => r.sub a (h2.subset m), r.live, fun q hq => ?_⟩, fun a m => h2.subset m⟩
  rw [wipe_out (hp.ne q hq)]
  exact r.pins q hq
theorem SR.back {H H0 : Hp} {U U0 : Addr → Prop} {σ0 σ : L2.St} {Γ0 Γ : Gm} {fp fp0 : List Addr} (r0 : SR E H0 U0 σ0 Γ0 fp0) (kp : Kp H0 U0 H U) (r : SR E H U σ Γ fp) : ∀ vs : List Nat, ∃ fp2, SR E H U (backS σ0 σ vs) (backG Γ0 Γ vs) fp2 ∧ fp2.Sublist fp
  | [] => ⟨fp, r, List.Sublist.refl _⟩
  | v :: vs => by
    obtain ⟨f1, h1, h2⟩ := SR.back r0 kp r vs
    obtain ⟨f2, h3, h4⟩ := SR.re (x := σ0[v]?.join) (o := keepDat Γ0[v]?) (by
      unfold keepDat
      split
      · rename_i d e
        obtain ⟨x, _, _, q1, q2, _⟩ := r0.out e
        cases q2 with
        | dat dr => exact .inr ⟨d, x, rfl, by rw [q1]; rfl, dr.kp kp⟩
      · exact .inl rfl) v h1
    exact ⟨f2, h3, h4.trans h2⟩
theorem REL.back {U U0 : Addr → Prop} {fp fp0 : List Addr} {Γ Γ0 : Gm} {σ : L2.St} {H H0 : Hp} {vs : List Nat} (r0 : REL E P U0 fp0 Γ0 σ H0) (kp : Kp H0 U0 H U) (r : REL E P U fp Γ (L2.wipe σ vs) H) : ∃ fp2, REL E P U fp2 (backG Γ0 Γ vs) σ H ∧ ∀ a ∈ fp2, a ∈ fp := by
  obtain ⟨fp2, h1, h2⟩ := r0.slots.back kp r.slots vs
  rw [backS_eq (wipe_length σ vs) fun i hi => wipe_out hi] at h1
  exact ⟨fp2, ⟨h1, h2.nodup r.nodup, fun a m => r.sub a (h2.subset m), r.live, r0.pins⟩, fun a m => h2.subset m⟩
end

section
variable {X : Cx} {P : Pn} {e a b tg iter elt : Expr} {es : List Expr} {pos p : Pos} {E : En}

/-! ## targets -/
abbrev WG := D → Gm → (Gm → Prop) → Prop
abbrev WGs := List D → Gm → (Gm → Prop) → Prop
def jG (E : En) (P : Pn) (is : List Nat) (w : WG) : TG := fun v σ H Q' => ∃ U fp Γ d Q, REL E P U fp Γ σ H ∧ DR E H U v d ∧ w d Γ Q ∧ ∀ σ' fp' Γ', REL E P U fp' Γ' σ' H → (∀ a ∈ fp', a ∈ fp) → (∀ js, (∀ i ∈ is, i ∈ js) → wipe σ' js = wipe σ js) → Q Γ' → Q' σ' H
def jGs (E : En) (P : Pn) (is : List Nat) (w : WGs) : TGs := fun v σ H Q' => ∃ U fp Γ d Q, REL E P U fp Γ σ H ∧ DRs E H U v d ∧ w d Γ Q ∧ ∀ σ' fp' Γ', REL E P U fp' Γ' σ' H → (∀ a ∈ fp', a ∈ fp) → (∀ js, (∀ i ∈ is, i ∈ js) → wipe σ' js = wipe σ js) → Q Γ' → Q' σ' H
abbrev QG (X : Cx) (P : Pn) (is : List Nat) (tg : Expr) (w : WG) : Prop := PG X tg (jG (en X) P is w)
abbrev QGs (X : Cx) (P : Pn) (is : List Nat) (tg : List Expr) (w : WGs) : Prop := PGs X tg (jGs (en X) P is w)
@[simp] def gD (i : Nat) : WG := fun d Γ Q => Q (Γ.set i (some (.dat d)))
theorem qg_name {i : Nat} {x : Str} (hN : X.N.Nodup) (hi : X.N[i]? = some x) (hx : Loc X.env.scope x) (hp : (P.all fun q => q.1 != i) = true := by rfl) (hf : X.fn x = true ∨ X.env.scope.names.lookup x = some .local := by first | exact .inl rfl | exact .inr rfl | assumption) : QG X P [i] (.Name x pos) (gD i) := by
  refine ⟨fun pins s σ H v u Q' I r ⟨U, fp, Γ, d, Q, rl, dr, q, k⟩ => (pg_name hN hi hx hf).run pins s σ H v u Q' I r ?_⟩
  have hl : i < Γ.length := by rw [← rl.len, I.len]; exact (List.getElem?_eq_some_iff.mp hi).1
  obtain ⟨fp2, r2, hsub, _⟩ := rl.put (v := v) (o := .dat d) (fo := []) hl (fun q hq => by simpa using List.all_eq_true.mp hp q hq) (.dat dr) (by rw [List.nil_append]; exact rl.nodup) (fun a m => nomatch m)
  exact k _ fp2 _ r2 (fun a m => by simpa using hsub a m) (fun js hj => wipe_set (hj i List.mem_cons_self)) q
@[simp] def gsNil : WGs := fun ds Γ Q => ds = [] ∧ Q Γ
@[simp] def gsCons (w : WG) (u : WGs) : WGs := fun ds Γ Q => match ds with
  | d :: r => w d Γ fun Γ1 => u r Γ1 Q
  | [] => False
theorem qgs_nil : QGs X P [] [] gsNil := ⟨fun pins s σ H vs us Q' I r ⟨U, fp, Γ, ds, Q, rl, dr, ⟨e, q⟩, k⟩ => pgs_nil.run pins s σ H vs us Q' I r (by
  subst e
  cases dr
  exact ⟨rfl, k σ fp Γ rl (fun a m => m) (fun _ _ => rfl) q⟩)⟩
theorem qgs_cons {is js : List Nat} {w : WG} {u : WGs} (h1 : QG X P is e w) (h2 : QGs X P js es u) (hs : (assignEach (e :: es) X.env).map (·.2) = assign e X.env :: (assignEach es X.env).map (·.2) := by rfl) : QGs X P (is ++ js) (e :: es) (gsCons w u) :=
  ⟨fun pins s σ H vs us Q' I r ⟨U, fp, Γ, ds, Q, rl, dr, q, k⟩ => (pgs_cons h1 h2 hs).run pins s σ H vs us Q' I r (by
    cases dr with
    | nil => exact False.elim q
    | cons d1 t =>
      refine ⟨_, _, rfl, U, fp, Γ, _, _, rl, d1, q, fun σ1 fp1 Γ1 r1 sub1 w1 q1 => ⟨U, fp1, Γ1, _, _, r1, t, q1, fun σ2 fp2 Γ2 r2 sub2 w2 q2 => ?_⟩⟩
      exact k σ2 fp2 Γ2 r2 (fun a m => sub1 a (sub2 a m)) (fun ks hk => (w2 ks fun i m => hk i (List.mem_append_right _ m)).trans (w1 ks fun i m => hk i (List.mem_append_left _ m))) q2)⟩
@[simp] def gTupD (n : Nat) (u : WGs) : WG := fun d Γ Q => match d with
  | .tuple ds => ds.length = n ∧ u ds Γ Q
  | _ => False
theorem DR.tupP {H : Hp} {U : Addr → Prop} {v : V} {ds : List D} (h : DR E H U v (.tuple ds)) : ∃ a xs, v = .ref a ∧ TP H a xs ∧ DRs E H U xs ds := h.vw.tup
theorem qg_tup {is : List Nat} {k n : Nat} {u : WGs} (hc : X.calm = true) (h : QGs X P is es u) (hn : (assignEach es X.env).length = n := by rfl) (hst : (assignEach es X.env).findIdx? (·.1) = none := by rfl) : QG X P is (.Tuple es k pos) (gTupD n u) :=
  ⟨fun pins s σ H v u' Q' I r ⟨U, fp, Γ, d, Q, rl, dr, q, k⟩ => (pg_tup hc h hn hst).run pins s σ H v u' Q' I r (by
    unfold gTupD at q
    split at q
    · obtain ⟨a, xs, rfl, tp, drs⟩ := dr.tupP
      exact ⟨a, xs, rfl, tp.sq, by rw [drs.length]; exact q.1, U, fp, Γ, _, _, rl, drs, q.2, k⟩
    · exact q.elim)⟩
/-- target = value, the value data -/
@[simp] def sAsg (w : WE) (g : WG) : WS := fun Γ D => w Γ fun d Γ1 => g d Γ1 D.nx
theorem qs_asg {is : List Nat} {w : WE} {g : WG} (he : QE X P e w) (hg : QG X P is tg g) (hs : swapsWithSole [tg] e pos.line X.env = pure false := by rfl) (hw : swappedStores [tg] e X.env = pure none := by rfl)
    (h1 : (assignEach [tg] X.env).map (·.2) = [assign tg X.env] := by rfl) : QS X P (.Assign [tg] e pos) (sAsg w g) := ps_imp (ps_asg he hg hs hw h1) fun F σ H ⟨U, fp, Γ, D, r, q, k⟩ =>
  ⟨U, fp, Γ, _, r, q, fun v H' U' fp' Γ' d s1 r1 hd q1 => ⟨U', fp', Γ', d, _, r1, hd, q1, fun σ2 fp2 Γ2 r2 sub2 _ q2 => k.nx σ2 H' U' fp2 Γ2 (s1.sub sub2) r2 q2⟩⟩

/-! ## what is walked -/
structure Walks (J : It) (xs : List V) (keep : Hp → Prop) : Prop where
  go : ∀ i H, keep H → i < xs.length → J.go i H
  yld : ∀ i H x H', keep H → i < xs.length → J.yld i H x H' → H' = H ∧ xs[i]? = some x
  stop : ∀ H, keep H → J.stop xs.length H
abbrev WI := Gm → (List D → Gm → Prop) → Prop
def jI (E : En) (P : Pn) (w : WI) : TI := fun σ H R => ∃ U fp Γ Q, REL E P U fp Γ σ H ∧ w Γ Q ∧ ∀ J H' U' fp' Γ' xs ds keep, Step U fp H U' fp' H' → REL E P U' fp' Γ' σ H' → DRs E H' U' xs ds → Walks J xs keep →
  (∀ H2 : Hp, (∀ a o, H' a = some o → a ∉ fp' → H2 a = some o) → keep H2) → Q ds Γ' → R J H'
abbrev QI (X : Cx) (P : Pn) (tg iter : Expr) (w : WI) : Prop := PI X tg iter (jI (en X) P w)
theorem walks_list {K : PySem.W.Frag} {a : Addr} {xs : List V} : Walks (Itl K a) xs (fun H => H a = some (.lst xs)) :=
  ⟨fun i H h l => ⟨xs, xs[i], .of h, List.getElem?_eq_getElem l⟩, fun i H x H' h _ y => ⟨y.1, y.2 xs (.of h)⟩, fun H h => ⟨xs, .of h, Nat.le_refl _⟩⟩
theorem walks_tup {K : PySem.W.Frag} {a : Addr} {xs : List V} : Walks (Itt K a) xs (fun H => TP H a xs) :=
  ⟨fun i H h l => ⟨xs, xs[i], h.sq, List.getElem?_eq_getElem l⟩, fun i H x H' h _ y => ⟨y.1, y.2 xs h.sq⟩, fun H h => ⟨xs, h.sq, Nat.le_refl _⟩⟩
def walkD : D → Option (List D)
  | .list ds => some ds
  | .tuple ds => some ds
  | _ => none
@[simp] def iSq (w : WE) : WI := fun Γ Q => w Γ fun d Γ1 => ofO (walkD d) fun ds => Q ds Γ1
theorem qi_seq {w : WE} (hl : QE X P e w) : QI X P tg e (iSq w) := by
  refine ⟨fun pins s σ H R I ⟨U, fp, Γ, Q, r, q, k⟩ => ?_⟩
  refine thn (hl.run pins s σ H (fun x H1 => ∃ U' fp' Γ' d, Step U fp H U' fp' H1 ∧ REL (en X) P U' fp' Γ' σ H1 ∧ DR (en X) H1 U' x d ∧ _) I ⟨U, fp, Γ, _, r, q, fun v H' U' fp' Γ' d s1 r1 hd q1 => ⟨U', fp', Γ', d, s1, r1, hd, q1⟩⟩) fun v s1 ⟨x, H1, I1, rv, U', fp', Γ', d, st, rl, dr, q1⟩ => ?_
  cases d with
  | list ds =>
    obtain ⟨a, xs, rfl, ha, drs⟩ := dr.vw.lst
    obtain ⟨ns, rd, kk⟩ := dr
    have nU : ¬ U' a := by cases rd with | lst _ _ => exact (kk a List.mem_cons_self).1
    cases rv
    obtain ⟨its, rv, p, hz⟩ := I1.list (SqL.of (K := X.K) ha)
    refine wpAny_pyIter_list p.isList ?_
    refine ⟨s1.heap.objs.size, [s1.heap.objs.size], _, _, H1, rfl, I1.kept (t' := s1.toks) fun b o e => Heap.get?_push_of_some _ e, turn_list a _, ⟨_, Heap.get?_push_size _ rfl, rfl, rfl⟩, fun b hb => ?_, ?_⟩
    · have e : b = s1.heap.objs.size := by simpa using hb
      subst e
      exact I1.fpOk (Nat.le_refl _) (I1.hok.fresh (Nat.le_refl _))
    · exact k _ H1 U' fp' Γ' xs ds _ st rl drs walks_list (fun H2 h => h a _ ha fun m => nU (rl.sub a m)) q1
  | tuple ds =>
    obtain ⟨a, xs, rfl, ha, drs⟩ := dr.tupP
    obtain ⟨ns, rd, kk⟩ := dr
    have nU : ¬ U' a := notup rl.live ha
    cases rv
    obtain ⟨its, rv, p, hz⟩ := I1.tuple (ha.sq (K := X.K))
    refine wpAny_pyIter_tuple (show s1.heap.IsTuple a its.toArray from p) ?_
    refine ⟨s1.heap.objs.size, [s1.heap.objs.size], _, _, H1, rfl, I1.kept (t' := s1.toks) fun b o e => Heap.get?_push_of_some _ e, turn_tuple a _, ⟨_, Heap.get?_push_size _ rfl, rfl, rfl⟩, fun b hb => ?_, ?_⟩
    · have e : b = s1.heap.objs.size := by simpa using hb
      subst e
      exact I1.fpOk (Nat.le_refl _) (I1.hok.fresh (Nat.le_refl _))
    · exact k _ H1 U' fp' Γ' xs ds _ st rl drs walks_tup (fun H2 h => ha.mono fun o e => h a o e fun m => nU (rl.sub a m)) q1
  | _ => exact False.elim q1
theorem walks_range {lo : Int} {n : Nat} : Walks (Itr lo n) ((List.range n).map fun k : Nat => V.int (lo + k)) (fun _ => True) :=
  ⟨fun i H _ l => by
    show i < n
    simpa using l, fun i H x H' _ l y => by
    obtain ⟨rfl, rfl⟩ := y
    have l : i < n := by simpa using l
    exact ⟨rfl, by simp [l]⟩, fun H _ => by show n ≤ _; simp⟩
theorem drs_range {H : Hp} {U : Addr → Prop} (lo : Int) (l : List Nat) : DRs E H U (l.map fun k : Nat => V.int (lo + k)) (l.map fun k : Nat => PyData.int (lo + k)) := by
  induction l with
  | nil => exact .nil
  | cons x xs ih => exact .cons (.int _) ih
def rngD (lo : Int) (n : Nat) : List D := (List.range n).map fun k : Nat => PyData.int (lo + k)
@[simp] def iR1 (w : WAE) : WI := fun Γ Q => w Γ fun ds Γ1 => match ds with
  | [.int j] => (-(2 ^ 62) ≤ j ∧ j < 2 ^ 62) ∧ Q (rngD 0 j.toNat) Γ1
  | _ => False
@[simp] def iR2 (w : WAE) : WI := fun Γ Q => w Γ fun ds Γ1 => match ds with
  | [.int i, .int j] => (-(2 ^ 62) ≤ i ∧ i < 2 ^ 62 ∧ -(2 ^ 62) ≤ j ∧ j < 2 ^ 62) ∧ Q (rngD i (j - i).toNat) Γ1
  | _ => False
theorem pi_imp {w w' : TI} (h : PI X tg iter w) (f : ∀ σ H R, w' σ H R → w σ H R) : PI X tg iter w' := ⟨fun pins s σ H R I q => h.run pins s σ H R I (f σ H R q)⟩
theorem DRs.int1 {H : Hp} {U : Addr → Prop} {vs : List V} {i : Int} (h : DRs E H U vs [.int i]) : vs = [.int i] := by
  obtain ⟨x, rfl, r⟩ := h.one
  rw [r.vw.int]
theorem DRs.int2 {H : Hp} {U : Addr → Prop} {vs : List V} {i j : Int} (h : DRs E H U vs [.int i, .int j]) : vs = [.int i, .int j] := by
  obtain ⟨x, y, rfl, r, r2⟩ := h.two
  rw [r.vw.int, r2.vw.int]
theorem qi_range1 {w : WAE} {p pos : Pos} (hg : Gl X "range") (hm : X.mg "range" = none) (ha : QAE X P [a] w) (hs : starEach [a] X.env = [(false, eval a X.env)] := by rfl) : QI X P tg (.Call (.Name "range" p) [a] [] pos) (iR1 w) := pi_imp (pi_range1 hg hm ha hs) fun σ H R ⟨U, fp, Γ, Q, r, q, k⟩ =>
  ⟨U, fp, Γ, _, r, q, fun vs H' U' fp' Γ' ds s1 r1 drs q1 => by
    split at q1
    · rename_i j
      have := drs.int1
      subst this
      refine ⟨j, rfl, q1.1.1, q1.1.2, k _ H' U' fp' Γ' _ _ _ s1 r1 ?_ walks_range (fun _ _ => trivial) q1.2⟩
      exact drs_range 0 _
    · exact q1.elim⟩
theorem qi_range2 {w : WAE} {p pos : Pos} (hg : Gl X "range") (hm : X.mg "range" = none) (ha : QAE X P [a, b] w) (hs : starEach [a, b] X.env = [(false, eval a X.env), (false, eval b X.env)] := by rfl) (hs2 : starEach [b] X.env = [(false, eval b X.env)] := by rfl) :
    QI X P tg (.Call (.Name "range" p) [a, b] [] pos) (iR2 w) := pi_imp (pi_range2 hg hm ha hs hs2) fun σ H R ⟨U, fp, Γ, Q, r, q, k⟩ =>
  ⟨U, fp, Γ, _, r, q, fun vs H' U' fp' Γ' ds s1 r1 drs q1 => by
    split at q1
    · rename_i i j
      have := drs.int2
      subst this
      refine ⟨i, j, rfl, q1.1, k _ H' U' fp' Γ' _ _ _ s1 r1 ?_ walks_range (fun _ _ => trivial) q1.2⟩
      exact drs_range i _
    · exact q1.elim⟩

/-! ## for -/
@[simp] def sForL (g : WG) (w : WS) : List D → WS
  | [] => fun Γ D => D.nx Γ
  | d :: ds => fun Γ D => g d Γ fun Γ1 => w Γ1 { D with nx := fun Γ2 => sForL g w ds Γ2 D, ct := fun Γ2 => sForL g w ds Γ2 D, bk := D.nx }
@[simp] def sFor (wi : WI) (g : WG) (w : WS) : WS := fun Γ D => wi Γ fun ds Γ1 => sForL g w ds Γ1 D
theorem DRs.at {H : Hp} {U : Addr → Prop} {xs : List V} {ds : List D} (h : DRs E H U xs ds) {i : Nat} {x : V} (e : xs[i]? = some x) : ∃ d, DR E H U x d ∧ ds.drop i = d :: ds.drop (i + 1) := by
  obtain ⟨d, h1, h2⟩ := h.get e
  obtain ⟨hl, e2⟩ := List.getElem?_eq_some_iff.mp h1
  exact ⟨d, h2, by rw [← e2]; exact List.drop_eq_getElem_cons hl⟩
theorem qs_for {body : List Stmt} {is : List Nat} {wi : WI} {g : WG} {w : WS} (hp : PassesOwn (model X.prog X.w) X.A X.env X.xe) (hc : X.calm = true) (hi : QI X P tg iter wi) (hg : QG X P is tg g) (hb : QSs X P body w)
    (hs : ∀ x, foldedSetIterable iter X.env x = pure x := by intro _; rfl) : QS X P (.For tg iter body [] pos) (sFor wi g w) := ps_imp (ps_for hp hc hi hg hb hs) fun F σ H ⟨U, fp, Γ, D, r, q, k⟩ => by
  refine ⟨U, fp, Γ, _, r, q, fun J H1 U1 fp1 Γ1 xs ds keep s1 r1 drs wk kp q1 => ?_⟩
  refine ⟨fun i m σ' H' => m = xs.length - i ∧ i ≤ xs.length ∧ ∃ U' fp' Γ', Step U1 fp1 H1 U' fp' H' ∧ REL _ P U' fp' Γ' σ' H' ∧ sForL g w (ds.drop i) Γ' D, ⟨xs.length, by simp, Nat.zero_le _, U1, fp1, Γ1, .refl, r1, by simpa using q1⟩, ?_⟩
  rintro i m σ2 H2 ⟨rfl, hl, U2, fp2, Γ2, s2, r2, q2⟩
  have kk := kp H2 s2.keep
  have hlen := drs.length
  by_cases hlt : i < xs.length
  · refine .inr ⟨wk.go i H2 kk hlt, fun σ' H' => ∃ U' fp' Γ', Step U1 fp1 H1 U' fp' H' ∧ REL _ P U' fp' Γ' σ' H' ∧ sForL g w (ds.drop (i + 1)) Γ' D, fun σ' H' h => ⟨xs.length - (i + 1), by omega, rfl, hlt, h⟩, fun x H3 y => ?_⟩
    obtain ⟨rfl, hx⟩ := wk.yld i H2 x H3 kk hlt y
    obtain ⟨d, dr, ed⟩ := (drs.kp (s2.kp r1)).at hx
    rw [ed] at q2
    refine ⟨U2, fp2, Γ2, d, _, r2, dr, q2, fun σ3 fp3 Γ3 r3 sub3 _ q3 => ⟨U2, fp3, Γ3, _, r3, q3, ?_⟩⟩
    have s23 := s2.sub sub3
    have sA := r.trans s1 (r1.trans s2 (Step.refl.sub sub3))
    exact ⟨fun σ' H' U' fp' Γ' s4 r4 q4 => ⟨U', fp', Γ', r1.trans s23 s4, r4, q4⟩, fun σ' H' U' fp' Γ' s4 r4 q4 => k.nx σ' H' U' fp' Γ' (r.trans sA s4) r4 q4,
      fun σ' H' U' fp' Γ' s4 r4 q4 => ⟨U', fp', Γ', r1.trans s23 s4, r4, q4⟩, fun v σ' H' U' fp' Γ' o fo s4 r4 ho nd sb q4 => k.rt v σ' H' U' fp' Γ' o fo (r.trans sA s4) r4 ho nd sb q4⟩
  · have e : i = xs.length := by omega
    subst e
    rw [hlen, List.drop_length] at q2
    exact .inl ⟨wk.stop H2 kk, k.nx σ2 H2 U2 fp2 Γ2 (r.trans s1 s2) r2 q2⟩
/-- what holds at each turn -/
theorem for_by {g : WG} {w : WS} {D : DE} (I : Nat → Gm → Prop) {ds : List PyData} {Γ : Gm} (h0 : I 0 Γ) (h : ∀ (i : Nat) (d : PyData) (Γ : Gm) (K : Gm → Prop), ds[i]? = some d → I i Γ → (∀ Γ2, I (i + 1) Γ2 → K Γ2) → g d Γ fun Γ1 => w Γ1 { D with nx := K, ct := K, bk := D.nx })
    (he : ∀ Γ, I ds.length Γ → D.nx Γ) : sForL g w ds Γ D := by
  have key : ∀ (n i : Nat) Γ, i + n = ds.length → I i Γ → sForL g w (ds.drop i) Γ D := by
    intro n
    induction n with
    | zero =>
      intro i Γ e hI
      have : i = ds.length := by omega
      subst this
      rw [List.drop_length]
      exact he Γ hI
    | succ n ih =>
      intro i Γ e hI
      have hl : i < ds.length := by omega
      rw [List.drop_eq_getElem_cons hl]
      exact h i ds[i] Γ _ (List.getElem?_eq_getElem hl) hI fun Γ2 h2 => ih (i + 1) Γ2 (by omega) h2
  have := key ds.length 0 Γ (by omega) h0
  simpa using this

/-! ## an own list is let go -/
def wFrz (i : Nat) : WE := fun Γ Q => match Γ[i]? with
  | some (some o) => ofO o.view fun d => Q d (Γ.set i (some (.dat d)))
  | _ => False
theorem qe_frz {i : Nat} (h : PE X e (tVar i)) : QE X P e (wFrz i) := pe_imp h fun σ H Q' ⟨U, fp, Γ, Q, r, q, k⟩ => by
  unfold wFrz at q
  split at q
  · rename_i o ho
    obtain ⟨d, hd, q⟩ := ofO_some q
    obtain ⟨v, fo, h1, h2, nd, sb, go⟩ := r.mod ho
    have dr := h2.fz hd
    obtain ⟨fp', s', r', _⟩ := go (fun a => U a ∧ a ∉ fo) H (.dat d) [] [] { keep := fun a q e _ => e, own := (fun a m => nomatch m), uni := fun a u => .inl u.1, forn := fun a u m => ⟨u, m⟩ } (.dat dr) List.nodup_nil ((fun a m => nomatch m)) (fun a u => r.live a u.1)
    exact ⟨v, h1, k v H _ fp' _ d s' r' dr q⟩
  · exact q.elim
end
end L3
set_option Elab.async false
set_option linter.all false
set_option maxRecDepth 100000
namespace L3
open PySem PySem.Spec PyProof.Rows L2

section
variable {X : Cx} {P : Pn} {e a b tg iter elt : Expr} {es : List Expr} {pos p : Pos} {E : En}
/-- the loop of a comprehension -/
def cL (vs : List Nat) (g : WG) (wc : WTE) (we : WE) : List D → List D → Gm → (List D → Gm → Prop) → Prop
  | [], acc, Γ, Q => Q acc Γ
  | d :: ds, acc, Γ, Q => g d Γ fun Γ1 => wc Γ1 fun b Γ2 => if b = true then we Γ2 fun y Γ3 => acc.length < sizeLine ∧ cL vs g wc we ds (acc ++ [y]) (wipeG Γ3 vs) Q else cL vs g wc we ds acc (wipeG Γ2 vs) Q
@[simp] def wLc (vs : List Nat) (wi : WI) (g : WG) (wc : WTE) (we : WE) : WO := fun Γ Q => wi Γ fun ds Γ1 => cL vs g wc we ds [] (wipeG Γ1 vs) fun acc Γ2 => Q (.lst acc) (backG Γ1 Γ2 vs)
@[simp] def wYes : WTE := fun Γ Q => Q true Γ
abbrev QTs (X : Cx) (P : Pn) (ifs : List Expr) (w : WTE) : Prop := PTs X ifs (jTE (en X) P w)
theorem qts_nil : QTs X P [] wYes := ⟨fun pins s σ H Q' I ⟨U, fp, Γ, Q, r, q, k⟩ => pts_nil.run pins s σ H Q' I (k true H U fp Γ .refl r q)⟩
theorem qts_one {c : Expr} {w : WTE} (h : QTE X P c w) : QTs X P [c] w := pts_one h
theorem lc_j {vs is : List Nat} {wi : WI} {g : WG} {wc : WTE} {we : WE} (hp : NoPin P vs) (hv : ∀ i ∈ is, i ∈ vs) : ∀ σ H Q, jO E P (wLc vs wi g wc we) σ H Q → tLc (jI E P wi) (jG E P is g) (jTE E P wc) (jE E P we) vs σ H Q := by
  intro σ H Q' ⟨U, fp, Γ, Q, r, q, k⟩
  refine ⟨U, fp, Γ, _, r, q, fun J H1 U1 fp1 Γ1 xs ds keep s1 r1 drs wk kp q1 L hL => ?_⟩
  obtain ⟨fpw, rw1, subw⟩ := r1.wipe hp
  have nLU : ¬ U1 L := nofr r1.live hL
  have kp1 : Kp H1 U1 (upd H1 L (.lst [])) (fun a => U1 a ∨ a = L) := ⟨fun a o _ e => Ex.new hL a o e, fun a u => u.imp id fun z => by rw [z]; exact hL, fun a _ _ e => Ex.new hL a _ e⟩
  have rA : REL E P (fun a => U1 a ∨ a = L) fpw (wipeG Γ1 vs) (wipe σ vs) (upd H1 L (.lst [])) := by
    refine ⟨rw1.slots.kp kp1 fun a _ o e => Ex.new hL a o e, rw1.nodup, fun a m => .inl (rw1.sub a m), fun a u => ?_, rw1.pins⟩
    by_cases e : a = L
    · subst e; rw [upd_same]; trivial
    · rw [upd_ne e]; exact r1.live a (u.resolve_right e)
  have sA : Step U1 fp1 H1 (fun a => U1 a ∨ a = L) (L :: fpw) (upd H1 L (.lst [])) := by
    refine ⟨fun a o e _ => Ex.new hL a o e, fun a m => ?_, fun a u => u.imp id fun z => by rw [z]; exact hL, fun a u _ => .inl u⟩
    rcases List.mem_cons.mp m with rfl | m
    · exact .inr hL
    · exact .inl (subw a m)
  have hlen := drs.length
  refine ⟨fun i m H' => m = xs.length - i ∧ i ≤ xs.length ∧ ∃ U' fp' Γ' ys acc, Step U1 fp1 H1 U' (L :: fp') H' ∧ REL E P U' fp' Γ' (wipe σ vs) H' ∧ H' L = some (.lst ys) ∧ DRs E H' U' ys acc ∧ U' L ∧ L ∉ fp' ∧ cL vs g wc we (ds.drop i) acc Γ' (fun acc Γ2 => Q (.lst acc) (backG Γ1 Γ2 vs)),
    ⟨xs.length, by simp, Nat.zero_le _, _, fpw, _, [], [], sA, rA, upd_same, .nil, .inr rfl, fun m => nLU (rw1.sub L m), by simpa using q1⟩, ?_⟩
  rintro i m H2 ⟨rfl, hl, U2, fp2, Γ2, ys, acc, s2, r2, hys, dys, uL, nL, q2⟩
  have kk := kp H2 s2.keep
  have liveL : ∀ a, a ∈ fp2 → U2 a := r2.sub
  by_cases hlt : i < xs.length
  · refine .inr ⟨wk.go i H2 kk hlt, fun H' => ∃ U' fp' Γ' ys acc, Step U1 fp1 H1 U' (L :: fp') H' ∧ REL E P U' fp' Γ' (wipe σ vs) H' ∧ H' L = some (.lst ys) ∧ DRs E H' U' ys acc ∧ U' L ∧ L ∉ fp' ∧ cL vs g wc we (ds.drop (i + 1)) acc Γ' (fun acc Γ2 => Q (.lst acc) (backG Γ1 Γ2 vs)),
      fun H' h => ⟨xs.length - (i + 1), by omega, rfl, hlt, h⟩, fun x H3 y => ?_⟩
    obtain ⟨rfl, hx⟩ := wk.yld i H2 x H3 kk hlt y
    obtain ⟨d, dr, ed⟩ := (drs.kp (s2.kp r1)).at hx
    rw [ed] at q2
    refine ⟨U2, fp2, Γ2, d, _, r2, dr, q2, fun σ3 fp3 Γ3 r3 sub3 w3 q3 => ?_⟩
    have w3' : wipe σ3 vs = wipe σ vs := by rw [w3 vs hv, wipe_wipe]
    refine ⟨w3', U2, fp3, Γ3, _, r3, q3, fun b H4 U4 fp4 Γ4 s4 r4 q4 => ?_⟩
    have n3 : L ∉ fp3 := fun m => nL (sub3 L m)
    have n4 : L ∉ fp4 := fun m => by
      rcases s4.own L m with z | z
      · exact n3 z
      · rw [hys] at z; cases z
    have h4 : H4 L = some (.lst ys) := s4.keep L _ hys n3
    have u4 : U4 L := s4.forn L uL n3
    have s4' : Step U2 (L :: fp2) H3 U4 (L :: fp4) H4 := by
      refine ⟨fun a o e m => s4.keep a o e fun m2 => m (List.mem_cons_of_mem _ (sub3 a m2)), fun a m => ?_, s4.uni, fun a u m => s4.forn a u fun m2 => m (List.mem_cons_of_mem _ (sub3 a m2))⟩
      rcases List.mem_cons.mp m with rfl | m
      · exact .inl List.mem_cons_self
      · exact (s4.own a m).imp (fun z => List.mem_cons_of_mem _ (sub3 a z)) id
    have s14 : Step U1 fp1 H1 U4 (L :: fp4) H4 := s2.trans r1.sub r1.live s4'
    have dys4 : DRs E H4 U4 ys acc := dys.kp (s4.kp r3)
    cases b with
    | false =>
      rw [if_neg (by decide)] at q4
      dsimp only
      rw [if_neg (by decide)]
      obtain ⟨fp5, r5, sub5⟩ := r4.wipe hp
      rw [w3'] at r5
      refine ⟨U4, fp5, _, ys, acc, s14.sub fun a m => ?_, r5, h4, dys4, u4, fun m => n4 (sub5 L m), q4⟩
      rcases List.mem_cons.mp m with rfl | m
      · exact List.mem_cons_self
      · exact List.mem_cons_of_mem _ (sub5 a m)
    | true =>
      rw [if_pos rfl] at q4
      dsimp only
      rw [if_pos rfl]
      refine ⟨U4, fp4, Γ4, _, r4, q4, fun z H5 U5 fp5 Γ5 d5 s5 r5 dr5 q5 => ?_⟩
      have n5 : L ∉ fp5 := fun m => by
        rcases s5.own L m with z | z
        · exact n4 z
        · rw [h4] at z; cases z
      have h5 : H5 L = some (.lst ys) := s5.keep L _ h4 n4
      have u5 : U5 L := s5.forn L u4 n4
      have dys5 : DRs E H5 U5 ys acc := dys4.kp (s5.kp r4)
      refine ⟨ys, h5, by rw [dys5.length]; exact q5.1, ?_⟩
      have mL : Mut (H5 L) := by rw [h5]; trivial
      have kpL : Kp H5 U5 (upd H5 L (.lst (ys ++ [z]))) U5 := upd_kp u5 mL
      have r6 : REL E P U5 fp5 Γ5 σ3 (upd H5 L (.lst (ys ++ [z]))) := ⟨r5.slots.kp kpL fun a m o e => by
        rw [upd_ne]
        · exact e
        · rintro rfl; exact n5 m, r5.nodup, r5.sub, upd_live r5.live trivial, r5.pins⟩
      obtain ⟨fp7, r7, sub7⟩ := r6.wipe hp
      rw [w3'] at r7
      refine ⟨U5, fp7, _, ys ++ [z], acc ++ [d5], ?_, r7, upd_same, (dys5.append (.cons dr5 .nil)).kp kpL, u5, fun m => n5 (sub7 L m), q5.2⟩
      have s5' : Step U4 (L :: fp4) H4 U5 (L :: fp7) (upd H5 L (.lst (ys ++ [z]))) := by
        refine ⟨fun a o e m => ?_, fun a m => ?_, s5.uni, fun a u m => s5.forn a u fun m2 => m (List.mem_cons_of_mem _ m2)⟩
        · rw [upd_ne (fun z => m (by rw [z]; exact List.mem_cons_self))]
          exact s5.keep a o e fun m2 => m (List.mem_cons_of_mem _ m2)
        · rcases List.mem_cons.mp m with rfl | m
          · exact .inl List.mem_cons_self
          · exact (s5.own a (sub7 a m)).imp (fun z => List.mem_cons_of_mem _ z) id
      exact s14.trans r1.sub r1.live s5'
  · have e : i = xs.length := by omega
    subst e
    rw [hlen, List.drop_length] at q2
    refine .inl ⟨wk.stop H2 kk, ?_⟩
    obtain ⟨fpb, rb, subb⟩ := REL.back r1 (s2.kp r1) r2
    have sF : Step U fp H U2 ([L] ++ fpb) H2 := (r.trans s1 s2).sub fun a m => by
      rcases List.mem_cons.mp m with rfl | m
      · exact List.mem_cons_self
      · exact List.mem_cons_of_mem _ (subb a m)
    exact k (.ref L) H2 U2 fpb _ (.lst acc) [L] sF rb (.lst hys dys) (List.nodup_cons.mpr ⟨fun m => nL (subb L m), rb.nodup⟩) (fun a m => by
      have : a = L := by simpa using m
      subst this; exact uL) q2
theorem qo_lc {ifs : List Expr} {scope : Scope} {own : List (Str × Nat)} {is : List Nat} {wi : WI} {g : WG} {wc : WTE} {we : WE} (hc : X.calm = true) (hN : X.N.Nodup) (hi : QI X P tg iter wi) (ok : BlkOk X.N X.env.scope scope own)
    (hg : ∀ (s : Shared) (H : Hp) (C : Addr) (cl : List (Str × Addr)) (fp : List Addr), QG (X.blk s H scope (compEnvC scope cl C X.env) fp) P is tg g) (ht : ∀ (s : Shared) (H : Hp) (C : Addr) (cl : List (Str × Addr)) (fp : List Addr), QTs (X.blk s H scope (compEnvC scope cl C X.env) fp) P ifs wc)
    (he : ∀ (s : Shared) (H : Hp) (C : Addr) (cl : List (Str × Addr)) (fp : List Addr), QE (X.blk s H scope (compEnvC scope cl C X.env) fp) P elt we) (hp : NoPin P (own.map (·.2)) := by rfl) (hv : ∀ i ∈ is, i ∈ own.map (·.2) := by decide) (hs : ∀ x, foldedSetIterable iter X.env x = pure x := by intro _; rfl) :
    QO X P (.ListComp elt [⟨tg, iter, ifs, 0⟩] scope pos) (wLc (own.map (·.2)) wi g wc we) := pe_imp (pe_lc hc hN hi ok hg ht he hs) (lc_j hp hv)
/-- name = [..] on one line, the name a local -/
theorem qs_setLc {i : Nat} {y : Str} {py spos : Pos} {ifs : List Expr} {scope : Scope} {own : List (Str × Nat)} {is : List Nat} {wi : WI} {g : WG} {wc : WTE} {we : WE} (hc : X.calm = true) (hN : X.N.Nodup) (hy : X.N[i]? = some y) (hyl : X.env.scope.names.lookup y = some .local)
    (hsw : swapsWith (.ListComp elt [⟨tg, iter, ifs, 0⟩] scope pos) (some (.Name y py)) spos.line X.env = pure true) (hi : QI X P tg iter wi) (ok : BlkOk X.N X.env.scope scope own)
    (hg : ∀ (s : Shared) (H : Hp) (C : Addr) (cl : List (Str × Addr)) (fp : List Addr), QG (X.blk s H scope (compEnvC scope cl C X.env) fp) P is tg g) (ht : ∀ (s : Shared) (H : Hp) (C : Addr) (cl : List (Str × Addr)) (fp : List Addr), QTs (X.blk s H scope (compEnvC scope cl C X.env) fp) P ifs wc)
    (he : ∀ (s : Shared) (H : Hp) (C : Addr) (cl : List (Str × Addr)) (fp : List Addr), QE (X.blk s H scope (compEnvC scope cl C X.env) fp) P elt we) (hpi : (P.all fun q => q.1 != i) = true := by rfl) (hp : NoPin P (own.map (·.2)) := by rfl) (hv : ∀ i ∈ is, i ∈ own.map (·.2) := by decide) (hs : ∀ x, foldedSetIterable iter X.env x = pure x := by intro _; rfl) :
    QS X P (.Assign [.Name y py] (.ListComp elt [⟨tg, iter, ifs, 0⟩] scope pos) spos) (sSetO i (wLc (own.map (·.2)) wi g wc we)) := by
  refine ⟨fun pins s σ H F I ⟨U, fp, Γ, D, r, q, k⟩ => (ps_setLc hc hN hy hyl hsw hi ok hg ht he hs).run pins s σ H F I (lc_j hp hv _ _ _ ⟨U, fp, Γ, _, r, q, fun v H' U' fp' Γ' o fo s1 r1 ho nd sb q1 => ?_⟩)⟩
  have hl : i < Γ'.length := by rw [← r1.len, I.len]; exact (List.getElem?_eq_some_iff.mp hy).1
  obtain ⟨fp2, r2, hsub, _⟩ := r1.put hl (fun q hq => by simpa using List.all_eq_true.mp hpi q hq) ho nd sb
  exact k.nx _ H' U' fp2 _ (s1.sub hsub) r2 q1
end
end L3
set_option Elab.async false
set_option linter.all false
set_option maxRecDepth 100000
namespace L3
open PySem PySem.Spec PyProof.Rows L2

section
variable {X : Cx} {P : Pn} {e a b tg iter elt : Expr} {es : List Expr} {pos p : Pos} {E : En}

/-! ## a dict's pair is put -/
theorem put_any {H : Hp} {U : Addr → Prop} {kvs : List (Key × V)} {vs : List D} (r : DRs E H U (kvs.map (·.2)) vs) (k : Key) : (((kvs.map fun p => kD p.1).zip vs).any fun p => decide (p.1 = kD k)) = kvs.any fun kv => decide (kv.1 = k) := by
  induction kvs generalizing vs with
  | nil => rfl
  | cons p kvs ih =>
    cases r with
    | @cons v _ d ds r t =>
      show (((kD p.1, d) :: ((kvs.map fun p => kD p.1).zip ds)).any fun p => decide (p.1 = kD k)) = _
      rw [List.any_cons, List.any_cons, ih t]
      have : decide (kD p.1 = kD k) = decide (p.1 = k) := by
        by_cases h : p.1 = k
        · rw [h]; simp
        · rw [decide_eq_false h, decide_eq_false fun z => h (kD_inj z)]
      show (decide (kD p.1 = kD k) || _) = _
      rw [this]
theorem put_map {H : Hp} {U : Addr → Prop} {v : V} {d : D} (dv : DR E H U v d) (k : Key) {kvs : List (Key × V)} {vs : List D} (r : DRs E H U (kvs.map (·.2)) vs) :
    ∃ vs2, (((kvs.map fun p => kD p.1).zip vs).map fun p => if p.1 = kD k then (p.1, d) else p) = ((kvs.map fun kv => if kv.1 = k then (kv.1, v) else kv).map fun p => kD p.1).zip vs2 ∧ DRs E H U ((kvs.map fun kv => if kv.1 = k then (kv.1, v) else kv).map (·.2)) vs2 := by
  induction kvs generalizing vs with
  | nil => exact ⟨[], rfl, .nil⟩
  | cons p kvs ih =>
    cases r with
    | @cons w _ c ds r t =>
      obtain ⟨vs2, h1, h2⟩ := ih t
      by_cases h : p.1 = k
      · refine ⟨d :: vs2, ?_, ?_⟩
        · show ((if kD p.1 = kD k then (kD p.1, d) else (kD p.1, c)) :: _) = _
          rw [if_pos (by rw [h]), List.map_cons, if_pos h]
          exact congrArg ((kD p.1, d) :: ·) h1
        · rw [List.map_cons, if_pos h]
          exact .cons dv h2
      · refine ⟨c :: vs2, ?_, ?_⟩
        · show ((if kD p.1 = kD k then (kD p.1, d) else (kD p.1, c)) :: _) = _
          rw [if_neg (fun z => h (kD_inj z)), List.map_cons, if_neg h]
          exact congrArg ((kD p.1, c) :: ·) h1
        · rw [List.map_cons, if_neg h]
          exact .cons r h2
theorem zip_app {α β : Type} {xs : List α} {ys : List β} {x : α} {y : β} (h : xs.length = ys.length) : xs.zip ys ++ [(x, y)] = (xs ++ [x]).zip (ys ++ [y]) := by
  rw [List.zip_append h]; rfl
theorem put_rel {H : Hp} {U : Addr → Prop} {v : V} {d : D} (dv : DR E H U v d) (k : Key) {kvs : List (Key × V)} {vs : List D} (r : DRs E H U (kvs.map (·.2)) vs) :
    ∃ vs2, putD ((kvs.map fun p => kD p.1).zip vs) (kD k) d = ((putK kvs k v).map fun p => kD p.1).zip vs2 ∧ DRs E H U ((putK kvs k v).map (·.2)) vs2 := by
  unfold putD putK
  rw [put_any r k]
  split
  · exact put_map dv k r
  · refine ⟨vs ++ [d], ?_, ?_⟩
    · rw [List.map_append]
      exact zip_app (by rw [List.length_map, ← r.length, List.length_map])
    · rw [List.map_append]
      exact r.append (.cons dv .nil)

/-! ## o[k] = v of an own thing -/
def fSet (o : O) (k v : D) (Q : O → Prop) : Prop := match o with
  | .dic kvs => (atomD k = true ∧ keyOk kvs k = true) ∧ kvs.length < sizeLine ∧ Q (.dic (putD kvs k v))
  | .lst ds => match k with
    | .int i => ofO (ixN ds.length i) fun j => Q (.lst (ds.set j v))
    | _ => False
  | _ => False
def rSetO (E : En) : TSet := fun o k v H Q => ∃ U ob fo kd vd, OR E H U o ob fo ∧ (∀ a, U a → Mut (H a)) ∧ (∀ a ∈ fo, U a) ∧ DR E H U k kd ∧ DR E H U v vd ∧
  fSet ob kd vd fun ob' => ∀ H', Step U fo H U fo H' → OR E H' U o ob' fo → (∀ a, U a → Mut (H' a)) → Q H'
theorem retag {pins : List (Addr × Obj)} {σ : L2.St} {H : Hp} {s : Shared} {a : Addr} {es : List (NestedKey × Addr × V)} (I : Inv X pins σ H s) (h : H a = some (NdO (en X) a es)) (e : es = []) : Inv X pins σ (upd H a (.dK [])) s := by
  subst e
  obtain ⟨us, na⟩ := nestAt (U := fun _ => False) I h (fun _ m => nomatch m) .nil
  have at1 := nest_atom na
  obtain ⟨_, ⟨ob, ho⟩, _⟩ := I.hok a _ h
  have := I.write (x := a) (e := a) (o := .dK []) (h' := s.heap) (t' := s.toks) (by rw [h]; trivial) (.inl rfl) (fun b u _ q => q) ⟨_, ho⟩ ⟨Nat.zero_le _, at1.sm, [], .nil, at1.dd⟩
  exact this
theorem ref_noatom {E : En} {H : Hp} {a : Addr} {d : D} {ns : List Addr} (h : RD E H (.ref a) d ns) : atomD d = false := by
  generalize hv : V.ref a = v at h
  cases h <;> first | rfl | cases hv
theorem set_own (hu : X.A.units + 1 < cLine) : PSet X (rSetO (en X)) := by
  intro pins s σ H o i v ov iv u Q I ro ri rv ⟨U, ob, fo, kd, vd, ho, live, sb, dk, dv, h⟩
  cases ho with
  | lst ha drs =>
    unfold fSet at h
    dsimp only at h
    split at h
    · rename_i z
      obtain ⟨j, hj, h⟩ := ofO_some h
      have ei := dk.vw.int
      subst ei
      rename_i a xs ds _ _
      have ua : U a := sb a (by simp)
      refine set_list pins s σ H _ _ v ov iv u Q I ro ri rv ⟨a, xs, z, j, rfl, rfl, ha, by rw [drs.length]; exact hj, ?_⟩
      have kp := upd_kp (q := .lst (xs.set j v)) ua (live a ua)
      exact h _ (step_upd (by simp)) (.lst upd_same ((drs.set j dv).kp kp)) (upd_live live trivial)
    · exact h.elim
  | dicK ha e drs =>
    rename_i a kvs vs ds
    unfold fSet at h
    dsimp only at h
    obtain ⟨⟨h1, h2⟩, hz, h⟩ := h
    obtain ⟨k, rfl⟩ := kD_of h1
    have ei := vw_kV dk.vw
    subst ei
    subst e
    have ua : U a := sb a (by simp)
    have hl : kvs.length < sizeLine := by
      rw [List.length_zip, List.length_map, ← drs.length, List.length_map, Nat.min_self] at hz
      exact hz
    obtain ⟨vs2, q1, q2⟩ := put_rel dv k drs
    refine set_dict hu pins s σ H _ _ v ov iv u Q I ro ri rv ⟨a, _, rfl, .k ha hl, ?_⟩
    have kp := upd_kp (q := .dK (putK kvs k v)) ua (live a ua)
    exact h _ (step_upd (by simp)) (.dicK upd_same q1 (q2.kp kp)) (upd_live live trivial)
  | dicN ha dp e kr drs =>
    rename_i a es ds vs
    unfold fSet at h
    dsimp only at h
    obtain ⟨⟨h1, h2⟩, hz, h⟩ := h
    obtain ⟨k, rfl⟩ := kD_of h1
    have ei := vw_kV dk.vw
    subst ei
    have ua : U a := sb a (by simp)
    have enil : es = [] := by
      cases es with
      | nil => rfl
      | cons p r =>
        cases drs with
        | cons r1 t1 =>
          exfalso
          subst e
          unfold keyOk at h2
          rw [Bool.and_eq_true, List.all_eq_true] at h2
          have := h2.2 _ (List.mem_cons_self)
          cases kr with
          | cons kr1 _ =>
            obtain ⟨ns, rr, _⟩ := kr1
            have q := ref_noatom rr
            dsimp only at this
            rw [show atomD p.1.data = false from q, h1] at this
            cases this
    subst enil
    have e2 : ds = [] := by rw [e]; rfl
    subst e2
    obtain ⟨vs2, q1, q2⟩ := put_rel (kvs := []) dv k .nil
    refine set_dict hu pins s σ _ _ _ v ov iv u Q (retag I ha rfl) ro ri rv ⟨a, _, rfl, .k upd_same (by decide), ?_⟩
    rw [upd_upd]
    have kp := upd_kp (q := .dK (putK [] k v)) ua (live a ua)
    exact h _ (step_upd (by simp)) (.dicK upd_same q1 (q2.kp kp)) (upd_live live trivial)
  | _ => exact False.elim h
end
end L3
set_option Elab.async false
set_option linter.all false
set_option maxRecDepth 100000
namespace L3
open PySem PySem.Spec PyProof.Rows L2

section
variable {X : Cx} {P : Pn} {e a b tg iter elt : Expr} {es : List Expr} {pos p : Pos} {E : En}

/-! ## o[k] = v, o[k] += n, the statements -/
def hasS (Γ : Gm) (i : Nat) : Bool := match Γ[i]? with
  | some (some _) => true
  | _ => false
theorem hasS_v {U : Addr → Prop} {fp : List Addr} {Γ : Gm} {σ : L2.St} {H : Hp} {i : Nat} (r : REL E P U fp Γ σ H) (h : hasS Γ i = true) : ∃ v, σ[i]? = some (some v) := by
  unfold hasS at h
  split at h
  · rename_i o ho
    obtain ⟨v, _, _, h1, _⟩ := r.slots.out ho
    exact ⟨v, h1⟩
  · cases h
def atS (i : Nat) (Γ : Gm) (Q : O → Prop) : Prop := match Γ[i]? with
  | some (some o) => Q o
  | _ => False
theorem atS_some {i : Nat} {Γ : Gm} {Q : O → Prop} (h : atS i Γ Q) : ∃ o, Γ[i]? = some (some o) ∧ Q o := by
  unfold atS at h
  split at h
  · exact ⟨_, by assumption, h⟩
  · exact h.elim
@[simp] def sPut (i : Nat) (wk wv : WE) : WS := fun Γ D => wv Γ fun z Γ1 => hasS Γ1 i = true ∧ wk Γ1 fun k Γ2 => atS i Γ2 fun o => fSet o k z fun o' => D.nx (Γ2.set i (some o'))
theorem fSet_mono {o : O} {k v : D} {Q Q' : O → Prop} (h : ∀ z, Q z → Q' z) (q : fSet o k v Q) : fSet o k v Q' := by
  unfold fSet at *
  split at q
  · exact ⟨q.1, q.2.1, h _ q.2.2⟩
  · split at q
    · exact ofO_mono (fun z => h _) q
    · exact q.elim
  · exact q.elim
theorem qs_put {i : Nat} {o k v : Expr} {wk wv : WE} {p1 pos : Pos} (hu : X.A.units + 64 < cLine) (ho : PE X o (tVar i)) (hk : QE X P k wk) (hv : QE X P v wv)
    (ha : ∀ u, assign (.Subscript o k p1) X.env u = (do
      let ov ← holding [u] (eval o X.env)
      let iv ← holding [u, ov] (eval k X.env)
      standAt p1
      holding [u, ov, iv] (setItem ov iv u)
      release [u, ov, iv] []) := by intro _; rfl)
    (hs : swapsWithSole [.Subscript o k p1] v pos.line X.env = pure false := by rfl) (hw : swappedStores [.Subscript o k p1] v X.env = pure none := by rfl)
    (h1 : (assignEach [.Subscript o k p1] X.env).map (·.2) = [assign (.Subscript o k p1) X.env] := by rfl) : QS X P (.Assign [.Subscript o k p1] v pos) (sPut i wk wv) :=
  ps_imp (ps_asg hv (pg_sub ho hk (set_own (by omega)) ha) hs hw h1) fun F σ H ⟨U, fp, Γ, D, r, q, kk⟩ =>
  ⟨U, fp, Γ, _, r, q, fun vv H1 U1 fp1 Γ1 d s1 r1 dv ⟨q0, q1⟩ => by
    obtain ⟨ov, hov⟩ := hasS_v r1 q0
    refine ⟨ov, hov, U1, fp1, Γ1, _, r1, q1, fun kv H2 U2 fp2 Γ2 dk s2 r2 hdk q2 => ?_⟩
    obtain ⟨ob, hob, q2⟩ := atS_some q2
    obtain ⟨v', fo, h1, h2, nd, sb, go⟩ := r2.mod hob
    obtain rfl : ov = v' := by rw [hov] at h1; exact Option.some.inj (Option.some.inj h1)
    refine ⟨U2, ob, fo, dk, d, h2, r2.live, sb, hdk, dv.kp (s2.kp r1), ?_⟩
    refine fSet_mono (fun ob' q3 H3 s3 ho3 live3 => ?_) q2
    obtain ⟨fp3, s4, r4, _⟩ := go U2 H3 ob' [] fo s3 ho3 nd sb live3
    exact kk.nx σ H3 U2 fp3 _ (r.trans (r.trans s1 s2) s4) r4 q3⟩

/-- o[k] += n of an own dict -/
def fGet (o : O) (k : D) (Q : D → Prop) : Prop := match o with
  | .dic kvs => (atomD k = true ∧ keyOk kvs k = true) ∧ ofO (lookD kvs k) Q
  | _ => False
def rGetO (E : En) : V → V → Hp → VK → Prop := fun o k H Q => ∃ U ob fo kd, OR E H U o ob fo ∧ DR E H U k kd ∧ fGet ob kd fun d => ∀ v, DR E H U v d → Q v H
theorem get_own (hu : X.A.units + 1 < cLine) : PGet X (rGetO (en X)) := by
  intro pins s σ H o i ov iv Q I ro ri ⟨U, ob, fo, kd, ho, dk, h⟩
  cases ho with
  | dicK ha e drs =>
    rename_i a kvs vs ds
    unfold fGet at h
    dsimp only at h
    obtain ⟨⟨h1, h2⟩, h⟩ := h
    obtain ⟨d, hd, hq⟩ := ofO_some h
    obtain ⟨k, rfl⟩ := kD_of h1
    have ei := vw_kV dk.vw
    subst ei
    subst e
    rcases lookK drs k with ⟨w, d', q1, q2, q3⟩ | ⟨_, q2⟩
    · rw [q2] at hd; cases hd
      cases ro
      exact d_getItem hu I (by rw [← q1]; exact DGet.k ha) ri fun w' s' I' rw' => ⟨w, H, I', rw', hq w q3⟩
    · rw [q2] at hd; cases hd
  | dicN ha dp e kr drs =>
    exfalso
    rename_i a es ds vs
    unfold fGet at h
    dsimp only at h
    obtain ⟨⟨h1, h2⟩, h⟩ := h
    obtain ⟨d, hd, hq⟩ := ofO_some h
    cases es with
    | nil =>
      rw [e] at hd
      simp [lookD] at hd
    | cons p r =>
      cases drs with
      | cons r1 t1 =>
        subst e
        unfold keyOk at h2
        rw [Bool.and_eq_true, List.all_eq_true] at h2
        have := h2.2 _ (List.mem_cons_self)
        cases kr with
        | cons kr1 _ =>
          obtain ⟨ns, rr, _⟩ := kr1
          have q := ref_noatom rr
          dsimp only at this
          rw [show atomD p.1.data = false from q, h1] at this
          cases this
  | _ => exact False.elim h
def intD (d : D) (Q : Int → Prop) : Prop := match d with
  | .int i => Q i
  | _ => False
theorem intD_some {d : D} {Q : Int → Prop} (h : intD d Q) : ∃ i, d = .int i ∧ Q i := by
  unfold intD at h
  split at h
  · exact ⟨_, rfl, h⟩
  · exact h.elim
@[simp] def sAug (i : Nat) (wk we : WE) : WS := fun Γ D => hasS Γ i = true ∧ wk Γ fun k Γ1 => atS i Γ1 fun o => fGet o k fun z => we Γ1 fun y Γ2 => intD z fun m => intD y fun n => atS i Γ2 fun o2 => fSet o2 k (.int (m + n)) fun o' => D.nx (Γ2.set i (some o'))
theorem fGet_some {o : O} {k : D} {Q : D → Prop} (h : fGet o k Q) : ∃ d, Q d ∧ ∀ Q' : D → Prop, Q' d → fGet o k Q' := by
  unfold fGet at h
  split at h
  · obtain ⟨d, hd, q⟩ := ofO_some h.2
    exact ⟨d, q, fun Q' q' => ⟨h.1, ofO_intro hd q'⟩⟩
  · exact h.elim
theorem qs_aug {i : Nat} {o k v : Expr} {wk we : WE} {p1 : Pos} (hu : X.A.units + 64 < cLine) (ho : PE X o (tVar i)) (hk : QE X P k wk) (hv : QE X P v we)
    (ha : ∀ ov iv new, augStore k ov iv new = (do holding [new, ov, iv] (setItem ov iv new); release [new, ov, iv] []; pure .next) := by intros; rfl) : QS X P (.AugAssign (.Subscript o k p1) .Add v pos) (sAug i wk we) :=
  ps_imp (ps_augS ho hk (get_own (by omega)) hv ip_add (set_own (by omega)) ha) fun F σ H ⟨U, fp, Γ, D, r, ⟨q0, q⟩, kk⟩ => by
  obtain ⟨ov, hov⟩ := hasS_v r q0
  refine ⟨ov, hov, U, fp, Γ, _, r, q, fun kv H1 U1 fp1 Γ1 dk s1 r1 hdk q1 => ?_⟩
  obtain ⟨ob, hob, q1⟩ := atS_some q1
  obtain ⟨v1, fo, h1, h2, nd, sb, go⟩ := r1.mod hob
  obtain rfl : ov = v1 := by rw [hov] at h1; exact Option.some.inj (Option.some.inj h1)
  obtain ⟨d, q1, mk⟩ := fGet_some q1
  refine ⟨U1, ob, fo, dk, h2, hdk, mk _ fun xv hx => ?_⟩
  refine ⟨U1, fp1, Γ1, _, r1, q1, fun yv H2 U2 fp2 Γ2 dy s2 r2 hdy q2 => ?_⟩
  obtain ⟨m, em, q3⟩ := intD_some q2
  obtain ⟨n, en', q4⟩ := intD_some q3
  subst em en'
  obtain ⟨ob2, hob2, q5⟩ := atS_some q4
  obtain ⟨v2, fo2, g1, g2, nd2, sb2, go2⟩ := r2.mod hob2
  obtain rfl : ov = v2 := by rw [hov] at g1; exact Option.some.inj (Option.some.inj g1)
  refine ⟨m, n, hx.vw.int, hdy.vw.int, U2, ob2, fo2, dk, .int (m + n), g2, r2.live, sb2, hdk.kp (s2.kp r1), .int _, ?_⟩
  refine fSet_mono (fun ob' q3 H3 s3 ho3 live3 => ?_) q5
  obtain ⟨fp3, s4, r4, _⟩ := go2 U2 H3 ob' [] fo2 s3 ho3 nd2 sb2 live3
  exact kk.nx σ H3 U2 fp3 _ (r.trans (r.trans s1 s2) s4) r4 q3

/-! ## methods that change -/
abbrev FO := O → List D → (D → O → Prop) → Prop
/-- a method's effect on an own thing -/
def OwnM (E : En) (f : FO) (r : V → List V → Hp → VK → Prop) : Prop := ∀ (U : Addr → Prop) (H : Hp) (v : V) (o : O) (fo : List Addr) (vs : List V) (ds : List D) (Q : D → O → Prop) (Q' : VK), OR E H U v o fo → (∀ a, U a → Mut (H a)) → (∀ a ∈ fo, U a) → DRs E H U vs ds → f o ds Q →
  (∀ w H' z o', Step U fo H U fo H' → OR E H' U v o' fo → DR E H' U w z → (∀ a, U a → Mut (H' a)) → Q z o' → Q' w H') → r v vs H Q'
@[simp] def wOwn (T : String) (i : Nat) (f : FO) (wa : WAE) : WE := fun Γ Q => atS i Γ (fun o => ofO o.view fun d => tyN d = T) ∧ wa Γ fun ds Γ1 => atS i Γ1 fun o => f o ds fun z o' => Q z (Γ1.set i (some o'))
theorem qe_own {T id : String} {name : Str} {o : Expr} {f : FO} {i : Nat} {w : WAE} {r : V → List V → Hp → VK → Prop} {apos : Pos} (pa : PlainAttrs T) (slot : Slot T name id) (hty : typeOf (.builtin id) = pure (.type "method_descriptor")) (hm : MtR X id r) (hf : OwnM (en X) f r) (hT : T = "list" ∨ T = "tuple" ∨ T = "dict" ∨ T = "str") (ho : PE X o (tVar i)) (ha : QAE X P (e :: es) w)
    (hbase : attributeBase o name X.env (eval o X.env) = eval o X.env := by rfl)
    (hfew : ((backTo pos (starEach (e :: es) X.env)).all (fun x => !x.1) && (backToKw pos (keywordEach [] X.env)).all (fun x => x.1.isSome)
      && decide ((e :: es).length + ([] : List Keyword).length + (if ([] : List Keyword).isEmpty then 0 else 1) < 30)) = true := by rfl)
    (hline : (apos.endLine == pos.line) = true := by rfl) (hs : starEach (e :: es) X.env = (false, eval e X.env) :: starEach es X.env := by rfl) (hplain : (backTo pos (starEach es X.env)).any (·.1) = false := by rfl) :
    QE X P (.Call (.Attribute o name apos) (e :: es) [] pos) (wOwn T i f w) := pe_imp (pe_bmG tyD_ok pa slot hty hm ho ha hbase hfew hline hs hplain) fun σ H Q' ⟨U, fp, Γ, Q, r, ⟨q0, q⟩, k⟩ => by
  obtain ⟨o0, ho0, q0⟩ := atS_some q0
  obtain ⟨d0, hd0, ht⟩ := ofO_some q0
  obtain ⟨v, _, _, hv, hor, _, _⟩ := r.slots.out ho0
  refine ⟨v, hv, ⟨U, d0, hor.view hd0, ht, tyN_ok hT ht⟩, U, fp, Γ, _, r, q, fun vs H1 U1 fp1 Γ1 ds s1 r1 drs q1 => ?_⟩
  obtain ⟨ob, hob, q1⟩ := atS_some q1
  obtain ⟨v1, fo, h1, h2, nd, sb, go⟩ := r1.mod hob
  obtain rfl : v = v1 := by rw [hv] at h1; exact Option.some.inj (Option.some.inj h1)
  refine hf U1 H1 v ob fo vs ds _ _ h2 r1.live sb drs q1 fun w H2 z o' s2 ho2 hz live2 q2 => ?_
  obtain ⟨fp2, s3, r3, _⟩ := go U1 H2 o' [] fo s2 ho2 nd sb live2
  exact k w H2 U1 fp2 _ z (r.trans s1 s3) r3 hz q2
def fApp : FO := fun o ds Q => match o, ds with
  | .lst xs, [d] => xs.length < sizeLine ∧ Q .none (.lst (xs ++ [d]))
  | _, _ => False
theorem own_app : OwnM E fApp rAppend := by
  intro U H v o fo vs ds Q Q' ho live sb drs q k
  unfold fApp at q
  split at q
  · cases ho with
    | lst ha hd =>
      obtain ⟨x, rfl, dx⟩ := drs.one
      rename_i a xs
      have ua : U a := sb a (by simp)
      have kp := upd_kp (q := .lst (xs ++ [x])) ua (live a ua)
      exact ⟨a, xs, x, rfl, rfl, ha, by rw [hd.length]; exact q.1, k _ _ .none _ (step_upd (by simp)) (.lst upd_same ((hd.append (.cons dx .nil)).kp kp)) .non (upd_live live trivial) q.2⟩
  · exact q.elim
def fPop : FO := fun o ds Q => match o, ds with
  | .lst xs, [.int i] => (-(2 ^ 63) ≤ i ∧ i < 2 ^ 63) ∧ ofO (seqIndex? i xs.length) fun j => ofO xs[j]? fun d => Q d (.lst (xs.eraseIdx j))
  | _, _ => False
theorem own_pop : OwnM E fPop rPopAt := by
  intro U H v o fo vs ds Q Q' ho live sb drs q k
  unfold fPop at q
  split at q
  · cases ho with
    | lst ha hd =>
      have := drs.int1
      subst this
      rename_i i a ys
      obtain ⟨⟨h1, h2⟩, q⟩ := q
      obtain ⟨j, hj, q⟩ := ofO_some q
      obtain ⟨d, hdj, q⟩ := ofO_some q
      obtain ⟨y, hy, dy⟩ := hd.getD hdj
      have ua : U a := sb a (by simp)
      have kp := upd_kp (q := .lst (ys.eraseIdx j)) ua (live a ua)
      exact ⟨a, ys, i, j, y, rfl, rfl, ha, h1, h2, by rw [hd.length]; exact hj, hy, k _ _ d _ (step_upd (by simp)) (.lst upd_same ((hd.eraseIdx j).kp kp)) (dy.kp kp) (upd_live live trivial) q⟩
  · exact q.elim
theorem qe_append {i : Nat} {o : Expr} {w : WE} {apos : Pos} (ho : PE X o (tVar i)) (ha : QE X P a w)
    (hbase : attributeBase o "append" X.env (eval o X.env) = eval o X.env := by rfl)
    (hfew : ((backTo pos (starEach [a] X.env)).all (fun x => !x.1) && (backToKw pos (keywordEach [] X.env)).all (fun x => x.1.isSome)
      && decide (([a] : List Expr).length + ([] : List Keyword).length + (if ([] : List Keyword).isEmpty then 0 else 1) < 30)) = true := by rfl)
    (hline : (apos.endLine == pos.line) = true := by rfl) (hs : starEach [a] X.env = (false, eval a X.env) :: starEach [] X.env := by rfl) (hplain : (backTo pos (starEach [] X.env)).any (·.1) = false := by rfl) :
    QE X P (.Call (.Attribute o "append" apos) [a] [] pos) (wOwn "list" i fApp (wConsE w wNilE)) := qe_own PySem.F.plainAttrs_list PySem.F.slot_list_append PySem.F.type_list_append mt_append own_app (.inl rfl) ho (qae_cons ha qae_nil hs) hbase hfew hline hs hplain
theorem qe_pop {i : Nat} {o : Expr} {w : WE} {apos : Pos} (ho : PE X o (tVar i)) (ha : QE X P a w)
    (hbase : attributeBase o "pop" X.env (eval o X.env) = eval o X.env := by rfl)
    (hfew : ((backTo pos (starEach [a] X.env)).all (fun x => !x.1) && (backToKw pos (keywordEach [] X.env)).all (fun x => x.1.isSome)
      && decide (([a] : List Expr).length + ([] : List Keyword).length + (if ([] : List Keyword).isEmpty then 0 else 1) < 30)) = true := by rfl)
    (hline : (apos.endLine == pos.line) = true := by rfl) (hs : starEach [a] X.env = (false, eval a X.env) :: starEach [] X.env := by rfl) (hplain : (backTo pos (starEach [] X.env)).any (·.1) = false := by rfl) :
    QE X P (.Call (.Attribute o "pop" apos) [a] [] pos) (wOwn "list" i fPop (wConsE w wNilE)) := qe_own PySem.F.plainAttrs_list PySem.F.slot_list_pop PySem.F.type_list_pop mt_popAt own_pop (.inl rfl) ho (qae_cons ha qae_nil hs) hbase hfew hline hs hplain

/-! ## new own things -/
theorem REL.opened {U : Addr → Prop} {fp : List Addr} {Γ : Gm} {σ : L2.St} {H : Hp} {L : Addr} {o : HO} (r : REL E P U fp Γ σ H) (hL : H L = none) (mo : Mut (some o)) :
    REL E P (fun a => U a ∨ a = L) fp Γ σ (upd H L o) ∧ Step U fp H (fun a => U a ∨ a = L) (L :: fp) (upd H L o) ∧ (L :: fp).Nodup ∧ Kp H U (upd H L o) (fun a => U a ∨ a = L) := by
  have nLU : ¬ U L := nofr r.live hL
  have kp1 : Kp H U (upd H L o) (fun a => U a ∨ a = L) := ⟨fun a o _ e => Ex.new hL a o e, fun a u => u.imp id fun z => by rw [z]; exact hL, fun a _ _ e => Ex.new hL a _ e⟩
  refine ⟨⟨r.slots.kp kp1 fun a _ o e => Ex.new hL a o e, r.nodup, fun a m => .inl (r.sub a m), fun a u => ?_, r.pins⟩, ⟨fun a o e _ => Ex.new hL a o e, fun a m => ?_, fun a u => u.imp id fun z => by rw [z]; exact hL, fun a u _ => .inl u⟩, List.nodup_cons.mpr ⟨fun m => nLU (r.sub L m), r.nodup⟩, kp1⟩
  · by_cases e : a = L
    · subst e; rw [upd_same]; exact mo
    · rw [upd_ne e]; exact r.live a (u.resolve_right e)
  · rcases List.mem_cons.mp m with rfl | m
    · exact .inr hL
    · exact .inl m
@[simp] def wLstO (w : WAE) : WO := fun Γ Q => w Γ fun ds Γ1 => ds.length ≤ sizeLine ∧ Q (.lst ds) Γ1
theorem qo_lst {w : WAE} (h : QAE X P es w) : QO X P (.List es pos) (wLstO w) := pe_imp (pe_lst h) fun σ H Q' ⟨U, fp, Γ, Q, r, q, k⟩ =>
  ⟨U, fp, Γ, _, r, q, fun vs H1 U1 fp1 Γ1 ds s1 r1 drs q1 => ⟨by rw [drs.length]; exact q1.1, fun L hL => by
    obtain ⟨r2, s2, nd, kp⟩ := r1.opened (L := L) (o := .lst vs) hL trivial
    exact k _ _ _ fp1 Γ1 (.lst ds) [L] (r.trans s1 s2) r2 (.lst upd_same (drs.kp kp)) nd (fun a m => .inr (by simpa using m)) q1.2⟩⟩
@[simp] def wDic0 : WO := fun Γ Q => Q (.dic []) Γ
theorem qo_dic0 : QO X P (.Dict [] [] pos) wDic0 := pe_imp pe_dnewK fun σ H Q' ⟨U, fp, Γ, Q, r, q, k⟩ L hL => by
  obtain ⟨r2, s2, nd, kp⟩ := r.opened (L := L) (o := .dK []) hL trivial
  exact k _ _ _ fp Γ (.dic []) [L] s2 r2 (.dicK (vs := []) upd_same rfl .nil) nd (fun a m => .inr (by simpa using m)) q

/-! ## the script -/
def scrAt (i : Nat) (Γ : Gm) (Q : List Int → Prop) : Prop := match Γ[i]? with
  | some (some (.scr ns)) => Q ns
  | _ => False
theorem scr_some {i : Nat} {Γ : Gm} {Q : List Int → Prop} (h : scrAt i Γ Q) : ∃ ns, Γ[i]? = some (some (.scr ns)) ∧ Q ns := by
  unfold scrAt at h
  split at h
  · exact ⟨_, by assumption, h⟩
  · exact h.elim
theorem OR.scr_sq {H : Hp} {U : Addr → Prop} {v : V} {ns : List Int} {fo : List Addr} (h : OR E H U v (.scr ns) fo) : ∃ a, v = .ref a ∧ SqL E.K H a (ns.map V.int) := by
  cases h with
  | scrF h => exact ⟨_, rfl, .inl (.inr ⟨_, h⟩)⟩
  | scrK h =>
    refine ⟨_, rfl, ?_⟩
    rcases h with h | h
    · rcases h with h | ⟨o, h⟩ <;> cases h
    · exact .inr h
@[simp] def wLenS (i : Nat) : WV := fun Γ Q => scrAt i Γ fun ns => Q (.int ns.length)
theorem qf_lenS {i : Nat} (hg : Gl X "len") (hm : X.mg "len" = none) (ho : PE X a (tVar i)) (he : starEach [a] X.env = (false, eval a X.env) :: starEach [] X.env := by rfl) (hpl : (backTo pos (starEach [] X.env)).any (·.1) = false := by rfl) : QF X P (.Call (.Name "len" p) [a] [] pos) (wLenS i) :=
  pe_imp (pe_callB call_len_seq hg hm boot_len (pa_cons ho pa_nil he) (he := he) (hpl := hpl)) fun σ H Q' ⟨U, fp, Γ, Q, r, q, k⟩ => by
    obtain ⟨ns, hns, q⟩ := scr_some q
    obtain ⟨v, _, _, hv, hor, _, _⟩ := r.slots.out hns
    obtain ⟨l, rfl, hl⟩ := hor.scr_sq
    exact ⟨_, hv, l, _, rfl, .inl hl, by rw [List.length_map]; exact k _ H _ (Ex.refl H) (.int _) q⟩
@[simp] def wIxS (i : Nat) (w : WV) : WV := fun Γ Q => w Γ fun d => scrAt i Γ fun ns => intD d fun j => ofO (atI ns j) fun z => Q (.int z)
theorem qf_ixS {i : Nat} {w : WV} (ho : PE X a (tVar i)) (hb : QV X P b w) (hs : PlainIx b) (hh : ∀ Γ Q, w Γ Q → hasS Γ i = true → True := by intros; trivial) : QF X P (.Subscript a b pos) (fun Γ Q => hasS Γ i = true ∧ wIxS i w Γ Q) :=
  pe_imp (pe_ix ix_list ho hb hs) fun σ H Q' ⟨U, fp, Γ, Q, r, ⟨q0, q⟩, k⟩ => by
    obtain ⟨v, hv⟩ := hasS_v r q0
    refine ⟨v, hv, U, fp, Γ, _, r, q, fun x H1 d e1 vx q1 => ?_⟩
    obtain ⟨ns, hns, q1⟩ := scr_some q1
    obtain ⟨j, ej, q2⟩ := intD_some q1
    subst ej
    obtain ⟨z, hz, q3⟩ := ofO_some q2
    obtain ⟨v2, _, _, hv2, hor, _, _⟩ := (r.ex e1).slots.out hns
    rw [hv] at hv2; cases hv2
    obtain ⟨l, rfl, hl⟩ := hor.scr_sq
    refine ⟨l, _, j, .int z, rfl, vx.int, hl, ?_, k _ H1 _ e1 (.int _) q3⟩
    unfold atI at hz ⊢
    rw [List.length_map]
    cases hj : ixN ns.length j with
    | none => rw [hj] at hz; cases hz
    | some n =>
      rw [hj] at hz
      show (ns.map V.int)[n]? = _
      rw [List.getElem?_map, show ns[n]? = some z from hz]; rfl
end
end L3
set_option Elab.async false
set_option linter.all false
set_option maxRecDepth 100000
namespace L3
open PySem PySem.Spec PyProof.Rows L2

/-! ## functions: what they promise, by data -/
abbrev DS := List D → (O → Prop) → Prop
abbrev DM := O → List D → (O → O → Prop) → Prop
def spF (E : En) (n : Nat) (S : DS) : Sp := fun vs H Q _ => ∃ U ds R, (∀ a, U a → Mut (H a)) ∧ DRs E H U vs ds ∧ ds.length = n ∧ S ds R ∧
  ∀ v H' U' o fo, Step U [] H U' fo H' → OR E H' U' v o fo → fo.Nodup → (∀ a ∈ fo, U' a) → (∀ a, U' a → Mut (H' a)) → R o → Q v H'
def spM (E : En) (n : Nat) (S : DM) : Sp := fun vs H Q _ => ∃ v vs' U o fo ds R, vs = v :: vs' ∧ (∀ a, U a → Mut (H a)) ∧ OR E H U v o fo ∧ fo.Nodup ∧ (∀ a ∈ fo, U a) ∧ DRs E H U vs' ds ∧ ds.length = n ∧ S o ds R ∧
  ∀ w H' U' ro fr o' fo', Step U fo H U' (fr ++ fo') H' → OR E H' U' w ro fr → OR E H' U' v o' fo' → (fr ++ fo').Nodup → (∀ a ∈ fr ++ fo', U' a) → (∀ a, U' a → Mut (H' a)) → R ro o' → Q w H'
def FnP (P : Program) (w : World) (K : PySem.W.Frag) (mg : Str → Option Value) (base : Heap) (x : Str) (k : Nat) (ps : List Str) (sp : Sp) : Prop :=
  ∃ f fd, FnOk P w K mg base CX0 k f fd ps sp ∧ mg x = some (.ref f) ∧ PySem.W.keepIn K (.ref f) = true ∧ Binds K fd ps []
/-- the text's own facts -/
def TF (K : PySem.W.Frag) (mg : Str → Option Value) (x : Str) (st : Stmt) (ps : List Str) : Prop := ∃ f fd, L2.Fun K x x st f fd ∧ mg x = some (.ref f) ∧ Binds K fd ps []
@[simp] def st0 (m : Nat) (ds : List D) : Gm := ds.map (fun d => some (.dat d)) ++ List.replicate m none

section
variable {P : Program} {w : World} {K : PySem.W.Frag} {mg : Str → Option Value} {base : Heap} {x : Str} {st : Stmt} {N ps : List Str} {k : Nat}
theorem sr_none {E : En} {H : Hp} {U : Addr → Prop} : ∀ m : Nat, SR E H U (List.replicate m none) (List.replicate m none) []
  | 0 => .nil
  | m + 1 => .no (sr_none m)
theorem sr_dats {E : En} {H : Hp} {U : Addr → Prop} (m : Nat) : ∀ {vs : List V} {ds : List D}, DRs E H U vs ds → SR E H U (vs.map some ++ List.replicate m none) (ds.map (fun d => some (.dat d)) ++ List.replicate m none) []
  | _, _, .nil => sr_none m
  | _, _, .cons r t => .yes (.dat r) (sr_dats m t)
/-- a def of data -/
theorem fn_F {W : WS} {S : DS} {n : Nat} (T : TF K mg x st ps) (Sc : FnScope N ps (defScope st)) (hn : ps.length = n)
    (hb : ∀ (f : Addr) (cdv : Value) (A : Around) (outer : List Env) (s : Shared) (H : Hp) (E : XK), Room k (A.deeper (envOfC x (defScope st) s.heap.objs.size f cdv)) → QSs (cxOf CX0 P w K mg base N x (defScope st) f cdv A outer s H E).nox [] (defBody st) W)
    (hw : ∀ ds R, ds.length = n → S ds R → W (st0 (N.length - n) ds) { nx := fun _ => R (.dat .none), rt := fun o _ => R o }) : FnP P w K mg base x (k + 1) ps (spF ⟨P, w, K⟩ n S) := by
  obtain ⟨f, fd, F, hm, bd⟩ := T
  refine ⟨f, fd, F.ok Sc (fun vs H Q E h => ?_) (fun cdv A outer s H vs Q E hr h => ?_), hm, F.kp, bd⟩
  · obtain ⟨U, ds, R, _, drs, hl, _⟩ := h
    rw [drs.length, hl, hn]
  · obtain ⟨U, ds, R, live, drs, hl, hS, kk⟩ := h
    refine ⟨_, hb f cdv A outer s H E hr, U, [], st0 (N.length - n) ds, _, { slots := ?_, nodup := List.nodup_nil, sub := (fun a m => nomatch m), live := live, pins := (fun q hq => nomatch hq) }, hw ds R hl hS, ⟨?_, ?_, ?_, ?_⟩⟩
    · have := sr_dats (E := ⟨P, w, K⟩) (H := H) (U := U) (N.length - n) drs
      unfold L2.start st0
      rw [drs.length, hl]
      exact this
    · exact fun σ' H' U' fp' Γ' s1 r1 q => kk .non H' U' (.dat .none) [] (s1.sub fun a m => nomatch m) (.dat .non) List.nodup_nil (fun a m => nomatch m) r1.live q
    · exact fun σ' H' U' fp' Γ' s1 r1 q => q.elim
    · exact fun σ' H' U' fp' Γ' s1 r1 q => q.elim
    · exact fun v σ' H' U' fp' Γ' o fo s1 r1 ho nd sb q => kk v H' U' o fo (s1.sub fun a m => List.mem_append_left _ m) ho (List.nodup_append.mp nd).1 sb r1.live q
/-- a def whose first argument is a thing that it may change -/
theorem fn_Mx {f : Addr} {fd : FuncData} {W : WS} {S : DM} {n : Nat} (F : L2.Fun K x x st f fd) (Sc : FnScope N ps (defScope st)) (hn : ps.length = n + 1)
    (hb : ∀ (cdv : Value) (A : Around) (outer : List Env) (s : Shared) (H : Hp) (E : XK) (v : V), Room k (A.deeper (envOfC x (defScope st) s.heap.objs.size f cdv)) → QSs (cxOf CX0 P w K mg base N x (defScope st) f cdv A outer s H E).nox [(0, v)] (defBody st) W)
    (hw : ∀ o ds R, ds.length = n → S o ds R → W (some o :: st0 (N.length - (n + 1)) ds) { nx := fun Γ => atS 0 Γ fun o' => R (.dat .none) o', rt := fun ro Γ => atS 0 Γ fun o' => R ro o' }) : FnOk P w K mg base CX0 (k + 1) f fd ps (spM ⟨P, w, K⟩ n S) := by
  refine F.ok Sc (fun vs H Q E h => ?_) (fun cdv A outer s H vs Q E hr h => ?_)
  · obtain ⟨v, vs', U, o, fo, ds, R, rfl, _, _, _, _, drs, hl, _⟩ := h
    rw [List.length_cons, drs.length, hl, hn]
  · obtain ⟨v, vs', U, o, fo, ds, R, rfl, live, ho, nd, sb, drs, hl, hS, kk⟩ := h
    have fin : ∀ (w' : V) (σ' : L2.St) (H' : Hp) (U' : Addr → Prop) (fp' : List Addr) (Γ' : Gm) (ro : O) (fr : List Addr), Step U fo H U' (fr ++ fp') H' → REL ⟨P, w, K⟩ [(0, v)] U' fp' Γ' σ' H' → OR ⟨P, w, K⟩ H' U' w' ro fr → (fr ++ fp').Nodup → (∀ a ∈ fr, U' a) → atS 0 Γ' (fun o' => R ro o') → Q w' H' := by
      intro w' σ' H' U' fp' Γ' ro fr s1 r1 hro nd1 sb1 q
      obtain ⟨o', ho', q⟩ := atS_some q
      obtain ⟨v', f1, f2, h1, h2, h3, pm⟩ := r1.slots.out ho'
      have hp := r1.pins (0, v) (by simp)
      dsimp only at hp
      rw [hp] at h1
      obtain rfl : v = v' := Option.some.inj (Option.some.inj h1)
      have sub : ∀ a ∈ fr ++ f1, a ∈ fr ++ fp' := fun a m => (List.mem_append.mp m).elim (List.mem_append_left _) fun m => List.mem_append_right _ (pm.mem_iff.mpr (List.mem_append_left _ m))
      have nd2 : (fr ++ f1).Nodup := by
        have z := List.nodup_append.mp nd1
        have y := List.nodup_append.mp (pm.nodup_iff.mp z.2.1)
        exact List.nodup_append.mpr ⟨z.1, y.1, fun a m b m2 => z.2.2 a m b (pm.mem_iff.mpr (List.mem_append_left _ m2))⟩
      refine kk w' H' U' ro fr o' f1 (s1.sub sub) hro h2 nd2 (fun a m => ?_) r1.live q
      rcases List.mem_append.mp m with m | m
      · exact sb1 a m
      · exact r1.sub a (pm.mem_iff.mpr (List.mem_append_left _ m))
    refine ⟨_, hb cdv A outer s H E v hr, U, fo, some o :: st0 (N.length - (n + 1)) ds, _, ⟨?_, nd, sb, live, fun q hq => ?_⟩, hw o ds R hl hS, ⟨?_, ?_, ?_, ?_⟩⟩
    · have := sr_dats (E := ⟨P, w, K⟩) (H := H) (U := U) (N.length - (n + 1)) drs
      have := SR.yes ho this
      unfold L2.start st0
      rw [List.length_cons, drs.length, hl]
      rw [List.append_nil] at this
      exact this
    · obtain rfl : q = (0, v) := by simpa using hq
      rfl
    · exact fun σ' H' U' fp' Γ' s1 r1 q => fin .non σ' H' U' fp' Γ' (.dat .none) [] s1 r1 (.dat .non) (by rw [List.nil_append]; exact r1.nodup) (fun a m => nomatch m) q
    · exact fun σ' H' U' fp' Γ' s1 r1 q => q.elim
    · exact fun σ' H' U' fp' Γ' s1 r1 q => q.elim
    · exact fun v' σ' H' U' fp' Γ' ro fr s1 r1 hro nd1 sb1 q => fin v' σ' H' U' fp' Γ' ro fr s1 r1 hro nd1 sb1 q
theorem fn_M {W : WS} {S : DM} {n : Nat} (T : TF K mg x st ps) (Sc : FnScope N ps (defScope st)) (hn : ps.length = n + 1)
    (hb : ∀ (f : Addr) (cdv : Value) (A : Around) (outer : List Env) (s : Shared) (H : Hp) (E : XK) (v : V), Room k (A.deeper (envOfC x (defScope st) s.heap.objs.size f cdv)) → QSs (cxOf CX0 P w K mg base N x (defScope st) f cdv A outer s H E).nox [(0, v)] (defBody st) W)
    (hw : ∀ o ds R, ds.length = n → S o ds R → W (some o :: st0 (N.length - (n + 1)) ds) { nx := fun Γ => atS 0 Γ fun o' => R (.dat .none) o', rt := fun ro Γ => atS 0 Γ fun o' => R ro o' }) : FnP P w K mg base x (k + 1) ps (spM ⟨P, w, K⟩ n S) := by
  obtain ⟨f, fd, F, hm, bd⟩ := T
  exact ⟨f, fd, fn_Mx F Sc hn (fun cdv => hb f cdv) hw, hm, F.kp, bd⟩
theorem fnP_none {S : DS} {n : Nat} (T : TF K mg x st ps) (h : ∀ ds R, ¬ S ds R) : FnP P w K mg base x k ps (spF ⟨P, w, K⟩ n S) := by
  obtain ⟨f, fd, F, hm, bd⟩ := T
  exact ⟨f, fd, ⟨fun vs H Q E ⟨U, ds, R, _, _, _, hS, _⟩ => (h ds R hS).elim, fun A outer s H args us vs Q E _ _ _ _ ⟨U, ds, R, _, _, _, hS, _⟩ => (h ds R hS).elim⟩, hm, F.kp, bd⟩
theorem FnP.mono {sp : Sp} {j : Nat} (F : FnP P w K mg base x j ps sp) (h : j ≤ k) : FnP P w K mg base x k ps sp := let ⟨f, fd, F, r⟩ := F; ⟨f, fd, F.mono h, r⟩
end

/-! ## calls -/
section
variable {X : Cx} {P : Pn} {e a b : Expr} {es : List Expr} {pos p : Pos} {x : Str} {k n : Nat} {ps : List Str}
@[simp] def wCall (n : Nat) (S : DS) (w : WAE) : WO := fun Γ Q => w Γ fun ds Γ1 => ds.length = n ∧ S ds fun o => Q o Γ1
theorem qo_call {S : DS} {w : WAE} (F : FnP X.prog X.w X.K X.mg X.base x k ps (spF (en X) n S)) (hr : Room k X.A) (hg : Gl X x) (ha : QAE X P (e :: es) w) (hdb : (x == ("__debug__" : Str)) = false := by decide)
    (he : starEach (e :: es) X.env = (false, eval e X.env) :: starEach es X.env := by rfl) (hpl : (backTo pos (starEach es X.env)).any (·.1) = false := by rfl) : QO X P (.Call (.Name x p) (e :: es) [] pos) (wCall n S w) := by
  obtain ⟨f, fd, F, hm, kp, bd⟩ := F
  refine pe_imp (pe_call F hr hg hm kp bd .nil pass0 ha hdb he hpl) fun σ H Q' ⟨U, fp, Γ, Q, r, q, kk⟩ =>
    ⟨U, fp, Γ, _, r, q, fun vs H1 U1 fp1 Γ1 ds s1 r1 drs q1 => ?_⟩
  dsimp only
  rw [List.append_nil]
  refine ⟨U1, ds, _, r1.live, drs, q1.1, q1.2, fun v H2 U2 o fo s2 ho nd sb live q2 => ?_⟩
  have keepO : ∀ a ∈ fp1, a ∉ fo := fun a m m2 => by
    rcases s2.own a m2 with z | z
    · cases z
    · exact mut_some (r1.live a (r1.sub a m)) z
  have s3 : Step U1 fp1 H1 U2 (fo ++ fp1) H2 := ⟨fun a o e _ => s2.keep a o e (fun m => nomatch m), fun a m => (List.mem_append.mp m).elim (fun m => (s2.own a m).elim (fun z => nomatch z) .inr) .inl, s2.uni, fun a u _ => s2.forn a u (fun m => nomatch m)⟩
  have ndF : (fo ++ fp1).Nodup := List.nodup_append.mpr ⟨nd, r1.nodup, fun a m b m2 e => by subst e; exact keepO a m2 m⟩
  have r2 : REL (en X) P U2 fp1 Γ1 σ H2 := ⟨r1.slots.kp ⟨fun a o _ e => s2.keep a o e (fun m => nomatch m), s2.uni, fun a ob u e => s2.keep a _ e (fun m => nomatch m)⟩ fun a _ o e => s2.keep a o e (fun m => nomatch m),
    r1.nodup, fun a m => s2.forn a (r1.sub a m) (fun m => nomatch m), live, r1.pins⟩
  exact kk v H2 U2 fp1 Γ1 o fo (r.trans s1 s3) r2 ho ndF sb q2
@[simp] def wCallM (i n : Nat) (S : DM) (w : WAE) : WO := fun Γ Q => hasS Γ i = true ∧ w Γ fun ds Γ1 => ds.length = n ∧ atS i Γ1 fun o => S o ds fun ro o' => Q ro (Γ1.set i (some o'))
theorem qo_callM {i : Nat} {S : DM} {w : WAE} (F : FnP X.prog X.w X.K X.mg X.base x k ps (spM (en X) n S)) (hr : Room k X.A) (hg : Gl X x) (ho : PE X e (tVar i)) (ha : QAE X P es w) (hdb : (x == ("__debug__" : Str)) = false := by decide)
    (he : starEach (e :: es) X.env = (false, eval e X.env) :: starEach es X.env := by rfl) (hpl : (backTo pos (starEach es X.env)).any (·.1) = false := by rfl) : QO X P (.Call (.Name x p) (e :: es) [] pos) (wCallM i n S w) := by
  obtain ⟨f, fd, F, hm, kp, bd⟩ := F
  refine pe_imp (pe_call F hr hg hm kp bd .nil pass0 (pa_cons ho ha he) hdb he hpl) fun σ H Q' ⟨U, fp, Γ, Q, r, ⟨q0, q⟩, kk⟩ => ?_
  obtain ⟨v, hv⟩ := hasS_v r q0
  refine ⟨v, hv, U, fp, Γ, _, r, q, fun vs H1 U1 fp1 Γ1 ds s1 r1 drs q1 => ?_⟩
  dsimp only
  rw [List.append_nil]
  obtain ⟨o, hob, q2⟩ := atS_some q1.2
  obtain ⟨v1, fo, h1, h2, nd, sb, go⟩ := r1.mod hob
  obtain rfl : v = v1 := by rw [hv] at h1; exact Option.some.inj (Option.some.inj h1)
  refine ⟨v, vs, U1, o, fo, ds, _, rfl, r1.live, h2, nd, sb, drs, q1.1, q2, fun w' H2 U2 ro fr o' fo' s2 hro ho' nd' sb' live q3 => ?_⟩
  obtain ⟨fp', s3, r3, nd3⟩ := go U2 H2 o' fr fo' s2 ho' nd' sb' live
  exact kk w' H2 U2 fp' _ ro fr (r.trans s1 s3) r3 hro nd3 (fun a m => sb' a (List.mem_append_left _ m)) q3
end
/-- at the top: the script alone -/
theorem script_sp {E : En} {S : DM} {H : Hp} {a : Addr} {ns : List Int} {X : XK} (hO : Only H) (hS : SqL E.K H a (ns.map V.int)) (h : S (.scr ns) [] fun ro _ => ro = .dat (.bool true)) : spM E 0 S [.ref a] H (fun v _ => v = .bl true) X := by
  refine ⟨.ref a, [], fun _ => False, .scr ns, [], [], _, rfl, (fun _ h => h.elim), ?_, List.nodup_nil, (fun _ m => nomatch m), .nil, rfl, h, fun w' H' U' ro fr o' fo' s ho ho' nd sb live e => ?_⟩
  · rcases hS with (h | ⟨o, h⟩) | h
    · rcases hO a with q | ⟨o, xs, q⟩
      · rw [q] at h; cases h
      · rw [q] at h; cases h
    · exact .scrF h
    · exact .scrK (.inr h)
  · subst e
    cases ho with
    | dat r => exact r.vw.bl
end L3
set_option Elab.async false
set_option linter.all false
set_option maxRecDepth 100000
namespace L3
open PySem PySem.Spec PyProof.Rows L2

section
variable {X : Cx} {P : Pn} {e a b c tg iter elt : Expr} {es : List Expr} {pos p : Pos} {E : En}
/-! ## name = [..], the list let go at once -/
theorem fz_j {w : WO} : ∀ σ H Q', jE E P (wFz w) σ H Q' → jO E P w σ H Q' := fun σ H Q' ⟨U, fp, Γ, Q, r, q, k⟩ => ⟨U, fp, Γ, _, r, q, fun v H' U' fp' Γ' o fo s1 r1 ho nd sb q1 => by
  obtain ⟨d, hd, q1⟩ := ofO_some q1
  exact k v H' _ fp' Γ' d (Step.less r.live s1) (r1.less nd) (ho.fz hd) q1⟩
theorem qs_setLcF {i : Nat} {y : Str} {py spos : Pos} {ifs : List Expr} {scope : Scope} {own : List (Str × Nat)} {is : List Nat} {wi : WI} {g : WG} {wc : WTE} {we : WE} (hc : X.calm = true) (hN : X.N.Nodup) (hy : X.N[i]? = some y) (hyl : X.env.scope.names.lookup y = some .local)
    (hsw : swapsWith (.ListComp elt [⟨tg, iter, ifs, 0⟩] scope pos) (some (.Name y py)) spos.line X.env = pure true) (hi : QI X P tg iter wi) (ok : BlkOk X.N X.env.scope scope own)
    (hg : ∀ (s : Shared) (H : Hp) (C : Addr) (cl : List (Str × Addr)) (fp : List Addr), QG (X.blk s H scope (compEnvC scope cl C X.env) fp) P is tg g) (ht : ∀ (s : Shared) (H : Hp) (C : Addr) (cl : List (Str × Addr)) (fp : List Addr), QTs (X.blk s H scope (compEnvC scope cl C X.env) fp) P ifs wc)
    (he : ∀ (s : Shared) (H : Hp) (C : Addr) (cl : List (Str × Addr)) (fp : List Addr), QE (X.blk s H scope (compEnvC scope cl C X.env) fp) P elt we) (hpi : (P.all fun q => q.1 != i) = true := by rfl) (hp : NoPin P (own.map (·.2)) := by rfl) (hv : ∀ i ∈ is, i ∈ own.map (·.2) := by decide) (hs : ∀ x, foldedSetIterable iter X.env x = pure x := by intro _; rfl) :
    QS X P (.Assign [.Name y py] (.ListComp elt [⟨tg, iter, ifs, 0⟩] scope pos) spos) (sSet i (wFz (wLc (own.map (·.2)) wi g wc we))) := by
  refine ⟨fun pins s σ H F I ⟨U, fp, Γ, D, r, q, k⟩ => (ps_setLc hc hN hy hyl hsw hi ok hg ht he hs).run pins s σ H F I (lc_j hp hv _ _ _ (fz_j _ _ _ ⟨U, fp, Γ, _, r, q, fun v H' U' fp' Γ' d s1 r1 hd q1 => ?_⟩))⟩
  have hl : i < Γ'.length := by rw [← r1.len, I.len]; exact (List.getElem?_eq_some_iff.mp hy).1
  obtain ⟨fp2, r2, hsub, _⟩ := r1.put (fo := []) (o := .dat d) hl (fun q hq => by simpa using List.all_eq_true.mp hpi q hq) (.dat hd) (by rw [List.nil_append]; exact r1.nodup) (fun a m => nomatch m)
  exact k.nx _ H' U' fp2 _ (s1.sub fun a m => by simpa using hsub a m) r2 q1
/-! ## a op b op c -/
@[simp] def wChn (f g : D2) (wa wb wc : WV) : WV := fun Γ Q => wa Γ fun x => wb Γ fun y => f x y fun z => match z with
  | .bool true => wc Γ fun u => g y u Q
  | .bool false => Q (.bool false)
  | _ => False
theorem qf_chain {op op' : CmpOp} {f g : D2} {wa wb wc : WV} (ho : OpR X (compareOp op) (r2 (en X) f)) (ho' : OpR X (compareOp op') (r2 (en X) g)) (m : Mono2 f) (m' : Mono2 g) (ha : QV X P a wa) (hb : QV X P b wb) (hc : QV X P c wc)
    (hm : lastMarks [op, op'] [b, c] = false := by with_unfolding_all rfl) : QF X P (.Compare a [op, op'] [b, c] pos) (wChn f g wa wb wc) := pe_imp (pe_chain ho ho' ha hb hc hm) fun σ H Q' ⟨U, fp, Γ, Q, r, q, k⟩ =>
  ⟨U, fp, Γ, _, r, q, fun x H1 d e1 vx q1 => ⟨U, fp, Γ, _, r.ex e1, q1, fun y H2 e' e2 vy q2 => ⟨U, d, e', (r.ex (e1.trans e2)).live, vx.ex e2, vy, m _ _ _ _ (fun z hz v H3 e3 dr => by
    cases z with
    | bool z =>
      refine ⟨z, dr.vw.bl, ?_⟩
      have e13 := (e1.trans e2).trans e3
      cases z with
      | true =>
        rw [if_pos rfl]
        exact ⟨U, fp, Γ, _, r.ex e13, hz, fun w' H4 u e4 vu q4 => ⟨U, e', u, (r.ex (e13.trans e4)).live, vy.ex (e3.trans e4), vu, m' _ _ _ _ (fun z hz v H5 e5 dr => k v H5 z ((e13.trans e4).trans e5) dr hz) q4⟩⟩
      | false =>
        rw [if_neg (by decide)]
        exact k _ H3 _ e13 (.bl _) hz
    | _ => exact False.elim hz) q2⟩⟩⟩
@[simp] def wBChn (f g : D2) (wa wb wc : WV) : WT := fun Γ Q => wChn f g wa wb wc Γ fun d => match d with
  | .bool c => Q c
  | _ => False
theorem qt_chain {op op' : CmpOp} {f g : D2} {wa wb wc : WV} (ho : OpR X (compareOp op) (r2 (en X) f)) (ho' : OpR X (compareOp op') (r2 (en X) g)) (m : Mono2 f) (m' : Mono2 g) (ha : QV X P a wa) (hb : QV X P b wb) (hc : QV X P c wc)
    (hm : lastMarks [op, op'] [b, c] = false := by with_unfolding_all rfl) : QT X P (.Compare a [op, op'] [b, c] pos) (wBChn f g wa wb wc) := pt_imp (pt_chain ho ho' ha hb hc hm) fun σ H Q' ⟨U, fp, Γ, Q, r, q, k⟩ =>
  ⟨U, fp, Γ, _, r, q, fun x H1 d e1 vx q1 => ⟨U, fp, Γ, _, r.ex e1, q1, fun y H2 e' e2 vy q2 => ⟨U, d, e', (r.ex (e1.trans e2)).live, vx.ex e2, vy, m _ _ _ _ (fun z hz v H3 e3 dr => by
    cases z with
    | bool z =>
      refine ⟨z, dr.vw.bl, ?_⟩
      have e13 := (e1.trans e2).trans e3
      cases z with
      | true =>
        rw [if_pos rfl]
        refine ⟨U, fp, Γ, _, r.ex e13, hz, fun w' H4 u e4 vu q4 => ⟨U, e', u, (r.ex (e13.trans e4)).live, vy.ex (e3.trans e4), vu, m' _ _ _ _ (fun z hz v H5 e5 dr => ?_) q4⟩⟩
        cases z with
        | bool c => exact ⟨c, dr.vw.bl, k c H5 ((e13.trans e4).trans e5) hz⟩
        | _ => exact False.elim hz
      | false =>
        rw [if_neg (by decide)]
        exact ⟨false, rfl, k false H3 e13 hz⟩
    | _ => exact False.elim hz) q2⟩⟩⟩
/-! ## the script by a name; a module's constant -/
@[simp] def wScr (i : Nat) (w : WV) : WV := fun Γ Q => hasS Γ i = true ∧ wIxS i w Γ Q
theorem qf_scr {i : Nat} {w : WV} (ho : PE X a (tVar i)) (hb : QV X P b w) (hs : PlainIx b) : QF X P (.Subscript a b pos) (wScr i w) := qf_ixS ho hb hs (fun _ _ _ _ => trivial)
theorem qf_glob {x : Str} {i : Int} (hg : Gl X x) (hm : ∃ t, X.mg x = some (.int i t)) (hd : (x == ("__debug__" : Str)) = false := by decide) : QF X P (.Name x pos) (wC (.int i)) := by
  obtain ⟨t, hm⟩ := hm
  exact pe_imp (pe_glob (v := .int i) hg hm ⟨t, rfl⟩ hd) fun σ H Q' ⟨U, fp, Γ, Q, r, q, k⟩ => k _ H _ (Ex.refl H) (.int i) q

/-! ## {k: v, ..} -/
@[simp] def wPs : List (WE × WE) → Gm → (List (D × D) → Gm → Prop) → Prop
  | [], Γ, Q => Q [] Γ
  | (wk, wv) :: r, Γ, Q => wk Γ fun k Γ1 => wv Γ1 fun v Γ2 => wPs r Γ2 fun ps Γ3 => Q ((k, v) :: ps) Γ3
inductive DPs (X : Cx) (P : Pn) : List (Option Expr) → List Expr → List (WE × WE) → Prop
  | nil : DPs X P [] [] []
  | cons {k v : Expr} {ks : List (Option Expr)} {vs : List Expr} {wk wv : WE} {ws : List (WE × WE)} : QE X P k wk → QE X P v wv → DPs X P ks vs ws → DPs X P (some k :: ks) (v :: vs) ((wk, wv) :: ws)
theorem dps_nil : DPs X P [] [] [] := .nil
theorem dps_cons {k v : Expr} {ks : List (Option Expr)} {vs : List Expr} {wk wv : WE} {ws : List (WE × WE)} (h1 : QE X P k wk) (h2 : QE X P v wv) (h : DPs X P ks vs ws) : DPs X P (some k :: ks) (v :: vs) ((wk, wv) :: ws) := .cons h1 h2 h
theorem DPs.pps {ks : List (Option Expr)} {vs : List Expr} {ws : List (WE × WE)} (h : DPs X P ks vs ws) : PPs X pos ks vs (ws.map fun p => (jE (en X) P p.1, jE (en X) P p.2)) := by
  induction h with
  | nil => exact pps_nil
  | cons h1 h2 _ ih => exact pps_cons h1 h2 ih
theorem vw_kV2 {H : Hp} {U : Addr → Prop} {y : V} {k : Key} (h : VW E H U y (kD k)) : y = kV k := by
  cases k with
  | inl i => exact h.int
  | inr x => exact h.str
inductive DRps (E : En) (H : Hp) (U : Addr → Prop) : List (V × V) → List (D × D) → Prop
  | nil : DRps E H U [] []
  | cons {x y : V} {k v : D} {ps : List (V × V)} {ds : List (D × D)} : DR E H U x k → DR E H U y v → DRps E H U ps ds → DRps E H U ((x, y) :: ps) ((k, v) :: ds)
theorem DRps.kp {H H' : Hp} {U U' : Addr → Prop} (k : Kp H U H' U') {ps : List (V × V)} {ds : List (D × D)} (h : DRps E H U ps ds) : DRps E H' U' ps ds := by
  induction h with
  | nil => exact .nil
  | cons a b _ ih => exact .cons (a.kp k) (b.kp k) ih
theorem pairs_j : ∀ (ws : List (WE × WE)) {σ : L2.St} {H : Hp} {Q' : List (V × V) → Hp → Prop} {U : Addr → Prop} {fp : List Addr} {Γ : Gm} {Q : List (D × D) → Gm → Prop}, REL E P U fp Γ σ H → wPs ws Γ Q →
    (∀ ps H' U' fp' Γ' ds, Step U fp H U' fp' H' → REL E P U' fp' Γ' σ H' → DRps E H' U' ps ds → Q ds Γ' → Q' ps H') → tPairs (ws.map fun p => (jE E P p.1, jE E P p.2)) σ H Q'
  | [], σ, H, Q', U, fp, Γ, Q, r, q, k => k [] H U fp Γ [] .refl r .nil q
  | (wk, wv) :: ws, σ, H, Q', U, fp, Γ, Q, r, q, k => by
    refine ⟨U, fp, Γ, _, r, q, fun x H1 U1 fp1 Γ1 d s1 r1 hx q1 => ⟨U1, fp1, Γ1, _, r1, q1, fun y H2 U2 fp2 Γ2 d2 s2 r2 hy q2 => ?_⟩⟩
    exact pairs_j ws r2 q2 fun ps H3 U3 fp3 Γ3 ds s3 r3 hps q3 => k _ H3 U3 fp3 Γ3 _ (r.trans (r.trans s1 s2) s3) r3 (.cons ((hx.kp (s2.kp r1)).kp (s3.kp r2)) (hy.kp (s3.kp r2)) hps) q3
def dispD (ps : List (D × D)) : List (D × D) := ps.foldl (fun acc p => putD acc p.1 p.2) []
@[simp] def wDisp (ws : List (WE × WE)) : WO := fun Γ Q => wPs ws Γ fun ps Γ1 => (ps.all (fun p => atomD p.1) = true ∧ ps.length ≤ 15) ∧ Q (.dic (dispD ps)) Γ1
theorem drps_keys {H : Hp} {U : Addr → Prop} {ps : List (V × V)} {ds : List (D × D)} (h : DRps E H U ps ds) (ha : ds.all (fun p => atomD p.1) = true) :
    ∃ kvs : List (Key × V), ps = kvs.map (fun kv => (kV kv.1, kv.2)) ∧ ∀ (acc : List (Key × V)) (vs : List D), DRs E H U (acc.map (·.2)) vs →
      ∃ vs2, ds.foldl (fun acc p => putD acc p.1 p.2) ((acc.map fun p => kD p.1).zip vs) = ((mergeK acc kvs).map fun p => kD p.1).zip vs2 ∧ DRs E H U ((mergeK acc kvs).map (·.2)) vs2 := by
  induction h with
  | nil => exact ⟨[], rfl, fun acc vs r => ⟨vs, rfl, r⟩⟩
  | @cons x y k v ps ds hx hy _ ih =>
    simp only [List.all_cons, Bool.and_eq_true] at ha
    obtain ⟨key, rfl⟩ := kD_of ha.1
    obtain ⟨kvs, rfl, f⟩ := ih ha.2
    have ex := vw_kV2 hx.vw
    subst ex
    refine ⟨(key, y) :: kvs, rfl, fun acc vs r => ?_⟩
    obtain ⟨vs2, q1, q2⟩ := put_rel hy key r
    obtain ⟨vs3, q3, q4⟩ := f (putK acc key y) vs2 q2
    refine ⟨vs3, ?_, q4⟩
    rw [List.foldl_cons]
    dsimp only
    rw [q1]
    exact q3
theorem DRps.len {H : Hp} {U : Addr → Prop} {ps : List (V × V)} {ds : List (D × D)} (h : DRps E H U ps ds) : ps.length = ds.length := by
  induction h with
  | nil => rfl
  | cons _ _ _ ih => rw [List.length_cons, List.length_cons, ih]
theorem qo_disp {keys : List (Option Expr)} {values : List Expr} {ws : List (WE × WE)} (h : DPs X P keys values ws) (hall : keys.all (·.isSome) = true) (hl : keys.length = values.length) (h0 : keys ≠ [])
    (h15 : keys.length ≤ 15) : QO X P (.Dict keys values pos) (wDisp ws) := pe_imp (pe_disp h.pps hall hl h0 h15) fun σ H Q' ⟨U, fp, Γ, Q, r, q, k⟩ L hL => by
  obtain ⟨r2, s2, nd, kp⟩ := r.opened (L := L) (o := .dK []) hL trivial
  have nL : L ∉ fp := (List.nodup_cons.mp nd).1
  refine pairs_j ws r2 q fun ps H1 U1 fp1 Γ1 ds s1 r1 hps ⟨⟨q1, q2⟩, q3⟩ => ?_
  have hL1 : H1 L = some (.dK []) := s1.keep L _ upd_same nL
  have n1 : L ∉ fp1 := fun m => by
    rcases s1.own L m with z | z
    · exact nL z
    · rw [upd_same] at z; cases z
  have u1 : U1 L := s1.forn L (.inr rfl) nL
  obtain ⟨kvs, e, f⟩ := drps_keys hps q1
  obtain ⟨vs2, g1, g2⟩ := f [] [] .nil
  refine ⟨hL1, kvs, e, ?_, ?_⟩
  · rw [← hps.len, e, List.length_map] at q2
    exact q2
  · have kpL : Kp H1 U1 (upd H1 L (.dK (mergeK [] kvs))) U1 := upd_kp u1 (by rw [hL1]; trivial)
    have r3 : REL (en X) P U1 fp1 Γ1 σ (upd H1 L (.dK (mergeK [] kvs))) := ⟨r1.slots.kp kpL fun a m o e => by
      rw [upd_ne]
      · exact e
      · rintro rfl; exact n1 m, r1.nodup, r1.sub, upd_live r1.live trivial, r1.pins⟩
    have s3 : Step U fp H U1 ([L] ++ fp1) (upd H1 L (.dK (mergeK [] kvs))) := by
      have s1' : Step (fun a => U a ∨ a = L) (L :: fp) (upd H L (.dK [])) U1 (L :: fp1) (upd H1 L (.dK (mergeK [] kvs))) := by
        refine ⟨fun a o e m => ?_, fun a m => ?_, s1.uni, fun a u m => s1.forn a u fun m2 => m (List.mem_cons_of_mem _ m2)⟩
        · rw [upd_ne (fun z => m (by rw [z]; exact List.mem_cons_self))]
          exact s1.keep a o e fun m2 => m (List.mem_cons_of_mem _ m2)
        · rcases List.mem_cons.mp m with rfl | m
          · exact .inl List.mem_cons_self
          · exact (s1.own a m).imp (fun z => List.mem_cons_of_mem _ z) id
      exact s2.trans r.sub r.live s1'
    exact k _ _ U1 fp1 Γ1 (.dic (dispD ds)) [L] s3 r3 (.dicK upd_same g1 (g2.kp kpL)) (List.nodup_cons.mpr ⟨n1, r1.nodup⟩) (fun a m => by
      have : a = L := by simpa using m
      subst this; exact u1) q3
end
end L3
set_option Elab.async false
set_option linter.all false
set_option maxRecDepth 100000
namespace L3
open PySem PySem.Spec PyProof.Rows L2

/-! ## sum(a list of tuples, a tuple) -/
namespace SumT
theorem s1 : isSubtype (.type "tuple") (.type "str") = pure false := by rw [isSubtype_type]; kernel_rfl
theorem s2 : isSubtype (.type "tuple") (.type "bytes") = pure false := by rw [isSubtype_type]; kernel_rfl
theorem s3 : isSubtype (.type "tuple") (.type "bytearray") = pure false := by rw [isSubtype_type]; kernel_rfl
section
variable {prog : Program} {w : World} {A : Around} {R : Result → Shared → Prop} {E : Value → Shared → Prop}
/-- where the total stands -/
def Old (z : Nat) (h : Heap) (a : Addr) (vs : List Value) (G : Addr → List Value → Prop) : Prop := G a vs ∨ (z ≤ a ∧ h.get? a = some { cls := .type "tuple", data := .seq vs.toArray })
theorem loop {I S l z : Nat} {its : List Value} {tss : List (List Value)} {G : Addr → List Value → Prop} (hh : A.handled = none) (hIS : S ≠ I) (hzI : z ≤ I) (hzS : z ≤ S) (hl : l < z) :
    ∀ (k i : Nat) (s : Shared) (acc : Addr) (vs : List Value) (c : Nat), its.length - i = k → i ≤ its.length → s.heap.IsListIter I l i → s.heap.IsList l its.toArray →
      (∀ a ws, G a ws → a < z ∧ IsTup s.heap a ws.toArray) → (∀ (j : Nat) (v : Value), its[j]? = some v → ∃ a ws, v = Value.ref a ∧ tss[j]? = some ws ∧ G a ws) → tss.length = its.length →
      s.heap.get? S = some { cls := .type "list", dict := none, data := .seq #[.ref acc] c, slots := #[] } → Old z s.heap acc vs G → acc ≠ S → acc ≠ I → vs.length + (tss.drop i).flatten.length ≤ sizeLine →
      (∀ h' t' r, (∀ b o, b < z → s.heap.get? b = some o → h'.get? b = some o) → Old z h' r (vs ++ (tss.drop i).flatten) G → R (.ok (.ret (.ref r))) { s with heap := h', toks := t' }) →
      codeAny (model prog w) A (.builtin "sum.loop" ⟨[.ref I, .ref S, rawInt 2, rawInt 0], []⟩) R s := by
  intro k
  induction k with
  | zero =>
    intro i s acc vs c hk hi hit hli hG hits hlen hS hold nS nI hsz hR
    have hin : i = its.length := by omega
    subst hin
    refine codeAny_builtin F.entry_sum_loop ?_
    rw [Around.under_plainId F.plain_sum_loop _]
    show wpAny _ A.in1 (seqItems? (.ref S) >>= _) _ _ s
    refine wpAny_bind (wpAny_seqItems hS rfl ?_)
    show wpAny _ A.in1 (tryCatch (pyNext (.ref I)) _ >>= _) _ _ s
    refine wpAny_bind (wpAny_tryCatch (wpAny_pyNext_list_end hh hit hli (by simp) fun h' hx => ?_))
    refine wpAny_pure ?_
    have := hR h' s.toks acc (fun b o hb e => hx b o (Nat.ne_of_lt (Nat.lt_of_lt_of_le hb hzI)) e) (by
      rw [← hlen, List.drop_length, List.flatten_nil, List.append_nil]
      exact hold.imp id fun q => ⟨q.1, hx _ _ nI q.2⟩)
    exact this
  | succ k ih =>
    intro i s acc vs c hk hi hit hli hG hits hlen hS hold nS nI hsz hR
    have hlt : i < its.length := by omega
    obtain ⟨a, ws, hv, hws, hga⟩ := hits i its[i] (List.getElem?_eq_getElem hlt)
    have hdrop : tss.drop i = ws :: tss.drop (i + 1) := by
      obtain ⟨hl2, e⟩ := List.getElem?_eq_some_iff.mp hws
      rw [List.drop_eq_getElem_cons hl2, e]
    refine codeAny_builtin F.entry_sum_loop ?_
    rw [Around.under_plainId F.plain_sum_loop _]
    show wpAny _ A.in1 (seqItems? (.ref S) >>= _) _ _ s
    refine wpAny_bind (wpAny_seqItems hS rfl ?_)
    show wpAny _ A.in1 (tryCatch (pyNext (.ref I)) _ >>= _) _ _ s
    refine wpAny_bind (wpAny_tryCatch (wpAny_pyNext_list_item hit hli (x := its[i]) (by simp [hlt]) fun h' hit' hs => ?_))
    rw [hv]
    show wpAny _ A.in1 ((holding [Value.ref a] (binaryOp .Add (.ref acc) (.ref a))).attempt >>= _) _ _ _
    have keep1 : ∀ b o, b ≠ I → s.heap.get? b = some o → h'.get? b = some o := fun b o hb e => (hs.2 b hb).trans e
    have tupa : IsTup h' a ws.toArray := by
      obtain ⟨hz, o, ho, q⟩ := hG a ws hga
      exact ⟨o, keep1 a o (Nat.ne_of_lt (Nat.lt_of_lt_of_le hz hzI)) ho, q⟩
    have tupacc : IsTup h' acc vs.toArray := by
      rcases hold with q | ⟨q, e⟩
      · obtain ⟨hz, o, ho, q⟩ := hG acc vs q
        exact ⟨o, keep1 acc o nI ho, q⟩
      · exact ⟨_, keep1 acc _ nI e, rfl, 0, rfl⟩
    have hS' := keep1 S _ hIS hS
    have size1 : s.heap.objs.size ≤ h'.objs.size := by
      rw [hs.1]; exact Nat.le_refl _
    have hsz2 : vs.length + ws.length + (tss.drop (i + 1)).flatten.length ≤ sizeLine := by
      rw [hdrop, List.flatten_cons, List.length_append] at hsz
      omega
    have addOk : wpAny (model prog w) A.in1 (binaryOp .Add (.ref acc) (.ref a)) (fun v s' => ∃ (r : Addr) (h2 : Heap), v = .ref r ∧ s' = { s with heap := h2 } ∧ (∀ b o, h'.get? b = some o → h2.get? b = some o) ∧ Old z h2 r (vs ++ ws) G ∧ r ≠ S ∧ r ≠ I)
        (fun e s' => False) { s with heap := h' } := by
      have aS : a ≠ S := Nat.ne_of_lt (Nat.lt_of_lt_of_le (hG a ws hga).1 hzS)
      have aI : a ≠ I := Nat.ne_of_lt (Nat.lt_of_lt_of_le (hG a ws hga).1 hzI)
      by_cases h0 : vs = []
      · subst h0
        exact cat_tup0 tupacc tupa ⟨a, h', rfl, rfl, fun _ _ e => e, .inl hga, aS, aI⟩
      · have szh : z ≤ h'.objs.size := by
          obtain ⟨o, ho, _⟩ := hit'
          have := Heap.lt_size ho
          exact Nat.le_trans hzI (Nat.le_of_lt this)
        refine HT.cat_tup tupacc tupa h0 (fun h1 => ?_) (fun h1 => ?_) (by omega)
        · subst h1
          refine ⟨acc, h', rfl, rfl, fun _ _ e => e, ?_, nS, nI⟩
          rw [List.append_nil]
          exact hold.imp id fun q => ⟨q.1, keep1 _ _ nI q.2⟩
        · refine ⟨h'.objs.size, _, rfl, rfl, fun b o e => Heap.get?_push_of_some _ e, .inr ⟨szh, Heap.get?_push_size _ rfl⟩, ?_, ?_⟩
          · exact fun e => absurd (Heap.lt_size hS') (by rw [← e]; exact Nat.lt_irrefl _)
          · obtain ⟨o, ho, _⟩ := hit'
            exact fun e => absurd (Heap.lt_size ho) (by rw [← e]; exact Nat.lt_irrefl _)
    refine wpAny_bind (wpAny_attempt (wpAny_holding (wpAny_mono addOk (fun v s' hq => ?_) fun _ _ z => z.elim)))
    obtain ⟨r, h2, rfl, rfl, k2, hold2, rS, rI⟩ := hq
    have hS2 := k2 _ _ hS'
    show wpAny _ A.in1 (updateSeq S (fun _ => #[Value.ref r]) >>= _) _ _ _
    refine wpAny_bind (wpAny_updateSeq hS2 rfl ?_)
    have hS3 := Heap.get?_update_self (Obj.mapSeq fun _ => #[Value.ref r]) hS2 rfl
    refine wpAny_bind (wpAny_letGo ?_)
    refine wpAny_bind (wpAny_updateSeq hS3 rfl (wpAny_pure ⟨plainId_quiet F.plain_sum_loop _, ?_⟩))
    have hS4 := Heap.get?_update_self (Obj.mapSeq fun _ => #[Value.ref r]) hS3 rfl
    have kE : ∀ b o, b ≠ S → h2.get? b = some o → ((h2.update S (Obj.mapSeq fun _ => #[Value.ref r])).update S (Obj.mapSeq fun _ => #[Value.ref r])).get? b = some o := fun b o hb e =>
      (Heap.get?_update_other _ _ (Ne.symm hb)).trans ((Heap.get?_update_other _ _ (Ne.symm hb)).trans e)
    have kA : ∀ b o, b ≠ S → b ≠ I → s.heap.get? b = some o → ((h2.update S (Obj.mapSeq fun _ => #[Value.ref r])).update S (Obj.mapSeq fun _ => #[Value.ref r])).get? b = some o := fun b o h1 h3 e => kE b o h1 (k2 b o (keep1 b o h3 e))
    have lS : l ≠ S := Nat.ne_of_lt (Nat.lt_of_lt_of_le hl hzS)
    have lI : l ≠ I := Nat.ne_of_lt (Nat.lt_of_lt_of_le hl hzI)
    refine ih (i + 1) { s with heap := (h2.update S (Obj.mapSeq fun _ => #[Value.ref r])).update S (Obj.mapSeq fun _ => #[Value.ref r]) } r (vs ++ ws) _ (by omega) hlt ?_ ?_ ?_ hits hlen hS4 ?_ rS rI (by rw [List.length_append]; exact hsz2) ?_
    · obtain ⟨o, ho, q⟩ := hit'
      exact ⟨o, kE _ _ (Ne.symm hIS) (k2 _ _ ho), q⟩
    · obtain ⟨o, ho, q⟩ := hli
      exact ⟨o, kA _ _ lS lI ho, q⟩
    · intro b us hb
      obtain ⟨h1, o, ho, q⟩ := hG b us hb
      exact ⟨h1, o, kA _ _ (Nat.ne_of_lt (Nat.lt_of_lt_of_le h1 hzS)) (Nat.ne_of_lt (Nat.lt_of_lt_of_le h1 hzI)) ho, q⟩
    · exact hold2.imp id fun q => ⟨q.1, kE _ _ rS q.2⟩
    · intro h'' t' r' kk hold'
      refine hR h'' t' r' (fun b o hb e => kk b o hb (kA b o (Nat.ne_of_lt (Nat.lt_of_lt_of_le hb hzS)) (Nat.ne_of_lt (Nat.lt_of_lt_of_le hb hzI)) e)) ?_
      rw [hdrop, List.flatten_cons, ← List.append_assoc]
      exact hold'
theorem args2 (a b : Value) : argsOk "sum" ⟨[a, b], []⟩ := by unfold argsOk; kernel_rfl
variable {s : Shared}
theorem call2 {l acc : Addr} {its vs : List Value} {tss : List (List Value)} {G : Addr → List Value → Prop} {Q : Value → Shared → Prop} (hh : A.handled = none) (hl : s.heap.IsList l its.toArray) (hG : ∀ a ws, G a ws → IsTup s.heap a ws.toArray)
    (hits : ∀ (j : Nat) (v : Value), its[j]? = some v → ∃ a ws, v = Value.ref a ∧ tss[j]? = some ws ∧ G a ws) (hlen : tss.length = its.length) (hacc : G acc vs) (hsz : vs.length + tss.flatten.length ≤ sizeLine)
    (hQ : ∀ h' t' r, (∀ b o, s.heap.get? b = some o → h'.get? b = some o) → Old s.heap.objs.size h' r (vs ++ tss.flatten) G → Q (.ref r) { s with heap := h', toks := t' }) :
    wpAny (model prog w) A (call (.builtin "sum") [.ref l, .ref acc]) Q E s := by
  have hT : s.TypeIs (.ref acc) "tuple" := by
    obtain ⟨o, ho, hc, _⟩ := hG acc vs hacc
    exact ⟨o, ho, hc⟩
  refine call_function_tree F.kind_sum F.plain_sum F.entry_sum (args2 _ _) ?_
  unfold Builtin.«sum»
  simp only [List.length_cons, List.length_nil]
  rw [if_neg (by decide)]
  refine wpAny_bind (wpAny_of_eq (show Builtin.Builtins.bindParams "sum" ["start"] 0 ⟨[.ref acc], []⟩ = pure [some (.ref acc)] from rfl) ?_)
  have lz : l < s.heap.objs.size := by obtain ⟨o, ho, _⟩ := hl; exact Heap.lt_size ho
  refine wpAny_bind (wpAny_pyIter_list hl ?_)
  refine wpAny_bind (wpAny_pure ?_)
  simp only [List.forIn_cons, List.forIn_nil]
  have hT2 : ({ s with heap := s.heap.push { cls := .type "list_iterator", data := .fields #[.ref l, .int 0 0] } } : Shared).TypeIs (.ref acc) "tuple" := by
    obtain ⟨o, ho, hc⟩ := hT
    exact ⟨o, Heap.get?_push_of_some _ ho, hc⟩
  refine wpAny_bind (wpAny_bind (wpAny_bind (wpAny_isInstance (T := "tuple") (b := false) hT2 s1 ?_)))
  simp only [Bool.false_eq_true, if_false]
  refine wpAny_pure (wpAny_bind (wpAny_bind (wpAny_isInstance (T := "tuple") (b := false) hT2 s2 ?_)))
  simp only [Bool.false_eq_true, if_false]
  refine wpAny_pure (wpAny_bind (wpAny_bind (wpAny_isInstance (T := "tuple") (b := false) hT2 s3 ?_)))
  simp only [Bool.false_eq_true, if_false]
  refine wpAny_pure (wpAny_pure ?_)
  refine wpAny_bind (wpAny_newObj_type ?_)
  have szI : (s.heap.push { cls := .type "list_iterator", data := .fields #[.ref l, .int 0 0] }).objs.size = s.heap.objs.size + 1 := Heap.size_push ..
  have acz : acc < s.heap.objs.size := by obtain ⟨o, ho, _⟩ := hT; exact Heap.lt_size ho
  refine wpAny_pure ⟨plainId_quiet F.plain_sum_loop _, loop (z := s.heap.objs.size) (I := s.heap.objs.size) (l := l) (its := its) (tss := tss) (G := G) hh (by rw [szI]; exact Nat.succ_ne_self _) (Nat.le_refl _) (by rw [szI]; exact Nat.le_succ _) lz its.length 0 _ acc vs 0 (by omega) (Nat.zero_le _) ?_ ?_ ?_ hits hlen ?_ (.inl hacc) ?_ ?_ (by simpa using hsz) ?_⟩
  · exact ⟨_, Heap.get?_push_of_some _ (Heap.get?_push_size _ rfl), rfl, rfl⟩
  · obtain ⟨o, ho, q⟩ := hl
    exact ⟨o, Heap.get?_push_of_some _ (Heap.get?_push_of_some _ ho), q⟩
  · intro a ws hga
    obtain ⟨o, ho, q⟩ := hG a ws hga
    exact ⟨Heap.lt_size ho, o, Heap.get?_push_of_some _ (Heap.get?_push_of_some _ ho), q⟩
  · exact Heap.get?_push_size _ rfl
  · rw [szI]; exact Nat.ne_of_lt (Nat.lt_succ_of_lt acz)
  · exact Nat.ne_of_lt acz
  · intro h' t' r kk hold
    refine hQ h' t' r (fun b o e => kk b o (Heap.lt_size e) (Heap.get?_push_of_some _ (Heap.get?_push_of_some _ e))) ?_
    simpa using hold
end
end SumT
section
variable {X : Cx} {E : En} {H : Hp} {U : Addr → Prop}
def dSum : Dn := fun ds Q => match ds with
  | [.list xs] => ∃ ns : List Int, xs = ns.map .int ∧ Q (.int ns.sum)
  | [.list xs, .tuple e] => ∃ tss : List (List D), xs = tss.map .tuple ∧ e.length + tss.flatten.length ≤ sizeLine ∧ Q (.tuple (e ++ tss.flatten))
  | _ => False
theorem m_sum : Monon dSum := fun d Q Q' h q => by
  unfold dSum at *
  split at q
  · obtain ⟨ns, e, q⟩ := q
    exact ⟨ns, e, h _ q⟩
  · obtain ⟨ns, e, l, q⟩ := q
    exact ⟨ns, e, l, h _ q⟩
  · exact q.elim
theorem tups_of {pins : List (Addr × Obj)} {σ : L2.St} {s : Shared} (I : Inv X pins σ H s) : ∀ {xs : List V} {us : List Value} {tss : List (List D)}, DRs (en X) H U xs (tss.map .tuple) → Vals xs us →
    ∃ (vss : List (List V)) (wss : List (List Value)), wss.length = us.length ∧ (∀ (j : Nat) (v : Value), us[j]? = some v → ∃ a ws, v = Value.ref a ∧ wss[j]? = some ws ∧ ∃ ys, TP H a ys ∧ Vals ys ws ∧ IsTup s.heap a ws.toArray) ∧ Vals vss.flatten wss.flatten ∧ DRs (en X) H U vss.flatten tss.flatten
  | [], _, tss, d, .nil => by
    cases tss with
    | nil => exact ⟨[], [], rfl, fun j v e => by simp at e, .nil, .nil⟩
    | cons t ts => cases d
  | x :: xs, _, tss, d, .cons (l₂ := us) rv rt => by
    cases tss with
    | nil => cases d
    | cons t ts =>
      rw [List.map_cons] at d
      cases d with
      | cons d1 dt =>
        obtain ⟨a, ys, rfl, tp, dy⟩ := d1.tupP
        cases rv
        obtain ⟨its, r1, p1, _⟩ := I.tuple (tp.sq (K := X.K))
        obtain ⟨vss, wss, h1, h2, h3, h4⟩ := tups_of I dt rt
        refine ⟨ys :: vss, its :: wss, by rw [List.length_cons, List.length_cons, h1], fun j v e => ?_, ?_, ?_⟩
        · cases j with
          | zero => simp at e; subst e; exact ⟨a, its, rfl, rfl, ys, tp, r1, p1⟩
          | succ j => simp at e; obtain ⟨a2, w2, q1, q2, q3⟩ := h2 j v e; exact ⟨a2, w2, q1, by simpa using q2, q3⟩
        · rw [List.flatten_cons, List.flatten_cons]; exact r1.append h3
        · rw [List.flatten_cons, List.flatten_cons]; exact dy.append h4
def toV : Value → V
  | .bool b => .bl b
  | .int i _ => .int i
  | .str x _ => .str x
  | .bytes b _ => .byt b
  | .float b _ => .flt b
  | .ref a => .ref a
  | .type n => .ty n
  | _ => .non
theorem toV_eq {x : V} {u : Value} (h : L2.RelV x u) : toV u = x := by
  cases x with
  | non => cases h; rfl
  | bl _ => cases h; rfl
  | int _ => obtain ⟨t, rfl⟩ := h; rfl
  | str _ => obtain ⟨t, rfl⟩ := h; rfl
  | byt _ => obtain ⟨t, rfl⟩ := h; rfl
  | flt _ => obtain ⟨t, rfl⟩ := h; rfl
  | ref _ => cases h; rfl
  | ty _ => cases h; rfl
theorem relV_inj {x y : V} {u : Value} (h : L2.RelV x u) (h2 : L2.RelV y u) : x = y := (toV_eq h).symm.trans (toV_eq h2)
theorem vals_inj {xs ys : List V} {us : List Value} (h : Vals xs us) (h2 : Vals ys us) : xs = ys := by
  induction h generalizing ys with
  | nil => cases h2; rfl
  | cons r _ ih =>
    cases h2 with
    | cons r2 t2 => rw [relV_inj r r2, ih t2]
theorem c_sum (hc : X.calm = true) : CallR X (.builtin "sum") (rn (en X) dSum) := by
  intro pins s σ H xs us Q I rs ⟨U, ds, live, vx, q⟩
  unfold dSum at q
  split at q
  · exact c_sum1 hc pins s σ H xs us Q I rs ⟨U, _, live, vx, q⟩
  · obtain ⟨tss, rfl, hz, q⟩ := q
    obtain ⟨x, y, rfl, vx, vy⟩ := vx.two
    obtain ⟨u, w', rfl, ru, rw'⟩ := vals2 rs
    obtain ⟨a, ys, rfl, ha, dr⟩ := vx.lst
    obtain ⟨b, zs, rfl, tp, dz⟩ := vy.tup
    cases ru
    cases rw'
    obtain ⟨its, rv, p, _⟩ := I.list (SqL.of (K := X.K) ha)
    obtain ⟨its2, r2, p2, _⟩ := I.tuple (tp.sq (K := X.K))
    obtain ⟨vss, wss, h1, h2, h3, h4⟩ := tups_of I dr rv
    rename_i e
    have hzW : its2.length + wss.flatten.length ≤ sizeLine := by
      have e1 := h3.length
      have e2 := h4.length
      have e3 := r2.length
      have e4 := dz.length
      omega
    refine SumT.call2 (its := its) (vs := its2) (tss := wss) (G := fun a ws => ∃ ys, TP H a ys ∧ Vals ys ws ∧ IsTup s.heap a ws.toArray) (I.ok.hd hc) p.isList (fun a ws ⟨ys, t1, t2, t3⟩ => t3) h2 h1 ⟨zs, tp, r2, p2⟩ hzW fun h' t' r kk hold => ?_
    rcases hold with ⟨ys, t1, t2, _⟩ | ⟨z, hr⟩
    · have ey : ys = zs ++ vss.flatten := vals_inj t2 (r2.append h3)
      subst ey
      exact ⟨.ref r, H, I.kept kk, rfl, q _ H (Ex.refl H) (.tup t1 (notup live t1) (dz.append h4))⟩
    · exact laid_tup I (r2.append h3) (by rw [List.length_append]; exact hzW) kk z hr fun o hn hd =>
        q _ _ (Ex.new hn) (.tup (tp_new hd) (nofr live hn) ((dz.append h4).kp (Ex.new hn).kp))
  · exact q.elim
end
end L3
set_option Elab.async false
set_option linter.all false
set_option maxRecDepth 100000
namespace L3
open PySem L2

/-! ## how readings are simplified -/
section
variable {Γ : Gm} {x : Option O} {o : O} {d : D} {i j : Int} {b : Bool} {t u : Str} {xs ys ds : List D} {kvs : List (D × D)} {k : Nat}
@[simp] theorem ofO_s {α : Type} {a : α} {Q : α → Prop} : ofO (some a) Q = Q a := rfl
@[simp] theorem ofO_n {α : Type} {Q : α → Prop} : ofO none Q = False := rfl
@[simp] theorem atS_0 {Q : O → Prop} : atS 0 (some o :: Γ) Q = Q o := rfl
@[simp] theorem atS_0n {Q : O → Prop} : atS 0 (none :: Γ) Q = False := rfl
@[simp] theorem atS_s {Q : O → Prop} : atS (k + 1) (x :: Γ) Q = atS k Γ Q := rfl
@[simp] theorem wDat_0 {Q : D → Prop} : wDat 0 (some (.dat d) :: Γ) Q = Q d := rfl
@[simp] theorem wDat_0n {Q : D → Prop} : wDat 0 (none :: Γ) Q = False := rfl
@[simp] theorem wDat_s {Q : D → Prop} : wDat (k + 1) (x :: Γ) Q = wDat k Γ Q := rfl
@[simp] theorem view_d : (O.dat d).view = some d := rfl
@[simp] theorem view_l : (O.lst xs).view = some (.list xs) := rfl
@[simp] theorem view_k : (O.dic kvs).view = some (.dict kvs) := rfl
@[simp] theorem wVar_0 {Q : D → Prop} : wVar 0 (some o :: Γ) Q = ofO o.view Q := by
  unfold wVar; cases h : o.view <;> simp [h]
@[simp] theorem wVar_s {Q : D → Prop} : wVar (k + 1) (x :: Γ) Q = wVar k Γ Q := rfl
@[simp] theorem scr_0 {ns : List Int} {Q : List Int → Prop} : scrAt 0 (some (.scr ns) :: Γ) Q = Q ns := rfl
@[simp] theorem scr_s {Q : List Int → Prop} : scrAt (k + 1) (x :: Γ) Q = scrAt k Γ Q := rfl
@[simp] theorem hasS_0 : hasS (some o :: Γ) 0 = true := rfl
@[simp] theorem hasS_s : hasS (x :: Γ) (k + 1) = hasS Γ k := rfl
@[simp] theorem wFrz_eq {k : Nat} {Q : D → Gm → Prop} : wFrz k Γ Q = atS k Γ fun o => ofO o.view fun d => Q d (Γ.set k (some (.dat d))) := by
  unfold wFrz atS
  cases h : Γ[k]? with
  | none => rfl
  | some x => cases x <;> rfl
@[simp] theorem items_l : itemsD (.list xs) = some xs := rfl
@[simp] theorem items_t : itemsD (.tuple xs) = some xs := rfl
@[simp] theorem items_d : itemsD (.dict kvs) = some (kvs.map (·.1)) := rfl
@[simp] theorem walk_l : walkD (.list xs) = some xs := rfl
@[simp] theorem walk_t : walkD (.tuple xs) = some xs := rfl
@[simp] theorem er_nil : er [] = [] := rfl
@[simp] theorem er_cons : er (x :: Γ) = er1 x :: er Γ := rfl
@[simp] theorem er1_n : er1 none = none := rfl
@[simp] theorem er1_d : er1 (some (.dat d)) = some (.dat d) := rfl
@[simp] theorem er1_s {ns : List Int} : er1 (some (.scr ns)) = some (.scr ns) := rfl
@[simp] theorem er1_l : er1 (some (.lst xs)) = none := rfl
@[simp] theorem er1_k : er1 (some (.dic kvs)) = none := rfl
@[simp] theorem intD_i {Q : Int → Prop} : intD (.int i) Q = Q i := rfl
variable {Q : D → Prop}
@[simp] theorem add_i : dAdd (.int i) (.int j) Q = Q (.int (i + j)) := rfl
@[simp] theorem add_s : dAdd (.str t) (.str u) Q = (t.length + u.length ≤ sizeLine ∧ Q (.str (t ++ u))) := rfl
@[simp] theorem add_l : dAdd (.list xs) (.list ys) Q = (xs.length + ys.length ≤ sizeLine ∧ Q (.list (xs ++ ys))) := rfl
@[simp] theorem add_t : dAdd (.tuple xs) (.tuple ys) Q = (xs.length + ys.length ≤ sizeLine ∧ Q (.tuple (xs ++ ys))) := rfl
@[simp] theorem sub_i : dSub (.int i) (.int j) Q = Q (.int (i - j)) := rfl
@[simp] theorem mul_i : dMul (.int i) (.int j) Q = ((L2.CMul i j ∨ CMulW i j) ∧ Q (.int (i * j))) := rfl
@[simp] theorem mul_l : dMul (.list xs) (.int j) Q = ((-(2 ^ 63) ≤ j ∧ j < 2 ^ 63 ∧ xs.length * j.toNat ≤ sizeLine) ∧ Q (.list (List.replicate j.toNat xs).flatten)) := rfl
@[simp] theorem fdiv_i : dFDiv (.int i) (.int j) Q = (CDivW i j ∧ Q (.int (i / j))) := rfl
@[simp] theorem mod_i : dMod (.int i) (.int j) Q = (0 < j ∧ Q (.int (i % j))) := rfl
@[simp] theorem pow_i : dPow (.int i) (.int j) Q = (L2.CPow i j ∧ Q (.int (i ^ j.toNat))) := rfl
@[simp] theorem neg_i : dNeg (.int i) Q = Q (.int (-i)) := rfl
@[simp] theorem lt_i : dLt (.int i) (.int j) Q = Q (.bool (decide (i < j))) := rfl
@[simp] theorem gt_i : dGt (.int i) (.int j) Q = Q (.bool (decide (j < i))) := rfl
@[simp] theorem le_i : dLe (.int i) (.int j) Q = Q (.bool (decide (i ≤ j))) := rfl
@[simp] theorem ge_i : dGe (.int i) (.int j) Q = Q (.bool (decide (j ≤ i))) := rfl
@[simp] theorem idx_l : dIdx (.list xs) (.int i) Q = ofO (L2.atI xs i) Q := rfl
@[simp] theorem idx_t : dIdx (.tuple xs) (.int i) Q = ofO (L2.atI xs i) Q := rfl
@[simp] theorem idx_d : dIdx (.dict kvs) d Q = (keyOk kvs d = true ∧ ofO (lookD kvs d) Q) := rfl
@[simp] theorem len_l : dLen [.list xs] Q = Q (.int xs.length) := rfl
@[simp] theorem len_t : dLen [.tuple xs] Q = Q (.int xs.length) := rfl
@[simp] theorem len_d : dLen [.dict kvs] Q = Q (.int kvs.length) := rfl
@[simp] theorem int_i : dInt [.int i] Q = Q (.int i) := rfl
@[simp] theorem int_b : dInt [.bool b] Q = Q (.int (if b then 1 else 0)) := rfl
@[simp] theorem abs_i : dAbs [.int i] Q = Q (.int (if i < 0 then -i else i)) := rfl
@[simp] theorem str_s : dStr [.str t] Q = Q (.str t) := rfl
@[simp] theorem tuple_1 : dTuple [d] Q = ofO (itemsD d) fun xs => Q (.tuple xs) := rfl
@[simp] theorem list_1 : dList [d] Q = ofO (itemsD d) fun xs => Q (.list xs) := rfl
@[simp] theorem sorted_1 : dSorted [d] Q = ofO (itemsD d) fun xs => sortOk xs ∧ Q (.list (xs.mergeSort leD)) := rfl
@[simp] theorem sl_l {lo hi : Option Int} : dSl (.list xs) lo hi Q = Q (.list (cutD xs lo hi)) := rfl
@[simp] theorem sl_t {lo hi : Option Int} : dSl (.tuple xs) lo hi Q = Q (.tuple (cutD xs lo hi)) := rfl
theorem inn_l : dInn b d (.list xs) Q = ((plD d ∧ PyData.plainAll xs = true ∧ PyData.depthAll xs ≤ 50) ∧ Q (.bool (if b then !anyD xs d else anyD xs d))) := rfl
theorem inn_t : dInn b d (.tuple xs) Q = ((plD d ∧ PyData.plainAll xs = true ∧ PyData.depthAll xs ≤ 50) ∧ Q (.bool (if b then !anyD xs d else anyD xs d))) := rfl
theorem inn_d : dInn b d (.dict kvs) Q = (keyOk kvs d = true ∧ Q (.bool (if b then !(lookD kvs d).isSome else (lookD kvs d).isSome))) := rfl
@[simp] theorem set_k {z : D} {Q : O → Prop} : fSet (.dic kvs) d z Q = ((atomD d = true ∧ keyOk kvs d = true) ∧ kvs.length < sizeLine ∧ Q (.dic (putD kvs d z))) := rfl
@[simp] theorem get_k : fGet (.dic kvs) d Q = ((atomD d = true ∧ keyOk kvs d = true) ∧ ofO (lookD kvs d) Q) := rfl
@[simp] theorem app_l {Q : D → O → Prop} : fApp (.lst xs) [d] Q = (xs.length < sizeLine ∧ Q .none (.lst (xs ++ [d]))) := rfl
@[simp] theorem ty_t : isTy "tuple" d = some d.isTuple := rfl
@[simp] theorem ty_l : isTy "list" d = some d.isList := rfl
@[simp] theorem ty_d : isTy "dict" d = some d.isDict := rfl
@[simp] theorem ty_i : isTy "int" d = some d.isInt := rfl
@[simp] theorem ty_b : isTy "bool" d = some d.isBool := rfl
@[simp] theorem ty_s : isTy "str" d = some d.isStr := rfl
@[simp] theorem tyN_l : tyN (.list xs) = "list" := rfl
@[simp] theorem tyN_t : tyN (.tuple xs) = "tuple" := rfl
@[simp] theorem tyN_d : tyN (.dict kvs) = "dict" := rfl
end
/-- a loop's next turn -/
theorem for_nil {g : WG} {w : WS} {Γ : Gm} {D : DE} : sForL g w [] Γ D = D.nx Γ := rfl
theorem for_cons {g : WG} {w : WS} {d : PyData} {ds : List PyData} {Γ : Gm} {D : DE} : sForL g w (d :: ds) Γ D = g d Γ fun Γ1 => w Γ1 { D with nx := fun Γ2 => sForL g w ds Γ2 D, ct := fun Γ2 => sForL g w ds Γ2 D, bk := D.nx } := rfl
/-- a comprehension that maps and sifts, over xs.map φ -/
theorem cL_q {α : Type} (φ : α → PyData) (G : α → Gm) (f : α → Bool) (h : α → PyData) {xs : List α} {vs : List Nat} {g : WG} {wc : WTE} {we : WE} {Γ : Gm} {Q : List PyData → Gm → Prop} (acc : List PyData)
    (hg : ∀ x ∈ xs, ∀ K : Gm → Prop, K (G x) → g (φ x) Γ K) (hw : ∀ x ∈ xs, wipeG (G x) vs = Γ) (hc : ∀ x ∈ xs, ∀ K : Bool → Gm → Prop, K (f x) (G x) → wc (G x) K) (he : ∀ x ∈ xs, f x = true → ∀ K : PyData → Gm → Prop, K (h x) (G x) → we (G x) K)
    (hz : acc.length + xs.length ≤ sizeLine) (hq : Q (acc ++ (xs.filter f).map h) Γ) : cL vs g wc we (xs.map φ) acc Γ Q := by
  induction xs generalizing acc with
  | nil => simpa [cL] using hq
  | cons d ds ih =>
    rw [List.length_cons] at hz
    rw [List.map_cons]
    unfold cL
    refine hg d (by simp) _ (hc d (by simp) _ ?_)
    cases hf : f d with
    | false =>
      rw [if_neg (by decide), hw d (by simp)]
      exact ih acc (fun x m => hg x (List.mem_cons_of_mem _ m)) (fun x m => hw x (List.mem_cons_of_mem _ m)) (fun x m => hc x (List.mem_cons_of_mem _ m)) (fun x m => he x (List.mem_cons_of_mem _ m)) (by omega) (by simpa [hf] using hq)
    | true =>
      rw [if_pos rfl]
      refine he d (by simp) hf _ ⟨by omega, ?_⟩
      rw [hw d (by simp)]
      exact ih (acc ++ [h d]) (fun x m => hg x (List.mem_cons_of_mem _ m)) (fun x m => hw x (List.mem_cons_of_mem _ m)) (fun x m => hc x (List.mem_cons_of_mem _ m)) (fun x m => he x (List.mem_cons_of_mem _ m)) (by rw [List.length_append, List.length_singleton]; omega) (by simpa [hf] using hq)
/-- a loop over xs.map φ by what holds at each turn -/
theorem for_ty {α : Type} (φ : α → PyData) {xs : List α} {g : WG} {w : WS} {D : DE} (I : Nat → Gm → Prop) {Γ : Gm} (h0 : I 0 Γ)
    (h : ∀ (i : Nat) (x : α) (Γ : Gm) (K : Gm → Prop), xs[i]? = some x → I i Γ → (∀ Γ2, I (i + 1) Γ2 → K Γ2) → g (φ x) Γ fun Γ1 => w Γ1 { D with nx := K, ct := K, bk := D.nx }) (he : ∀ Γ, I xs.length Γ → D.nx Γ) : sForL g w (xs.map φ) Γ D := by
  refine for_by I h0 (fun i d Γ K hd hI hK => ?_) (fun Γ hI => he Γ (by simpa using hI))
  rw [List.getElem?_map] at hd
  cases hx : xs[i]? with
  | none => rw [hx] at hd; cases hd
  | some x =>
    rw [hx] at hd
    cases hd
    exact h i x Γ K hx hI hK
end L3
set_option Elab.async false
set_option linter.all false
set_option maxRecDepth 100000
namespace K60
open PySem L3
abbrev PD := PyData
/-! ## columns -/
def LET : List Str := ["a", "b", "c1", "d_", "e", "f"]
def sts (xs : List Str) : PD := .tuple (xs.map .str)
abbrev Dep := List Str × List Str
@[simp] def depD (d : Dep) : PD := .tuple [sts d.1, sts d.2]
def depsD (ds : List Dep) : PD := .tuple (ds.map depD)
structure Cols (xs : List Str) : Prop where
  nd : xs.Nodup
  sub : ∀ x ∈ xs, x ∈ LET
structure Wf (ds : List Dep) : Prop where
  len : ds.length ≤ 6
  cols : ∀ d ∈ ds, Cols d.1 ∧ Cols d.2
theorem LET_nd : LET.Nodup := by decide +kernel
theorem nodup_len {α : Type} [DecidableEq α] : ∀ {xs ys : List α}, xs.Nodup → (∀ x ∈ xs, x ∈ ys) → xs.length ≤ ys.length
  | [], _, _, _ => Nat.zero_le _
  | x :: xs, ys, nd, h => by
    have hx : x ∈ ys := h x (by simp)
    have := nodup_len (xs := xs) (ys := ys.erase x) (List.nodup_cons.mp nd).2 fun y m => by
      refine (List.mem_erase_of_ne ?_).mpr (h y (List.mem_cons_of_mem _ m))
      rintro rfl; exact (List.nodup_cons.mp nd).1 m
    rw [List.length_erase_of_mem hx] at this
    have : 0 < ys.length := List.length_pos_of_mem hx
    rw [List.length_cons]
    omega
theorem Cols.len {xs : List Str} (h : Cols xs) : xs.length ≤ 6 := nodup_len h.nd h.sub
theorem sz : sizeLine = 16777216 := rfl
section
variable {xs ys : List Str} {x y : Str} {b : Bool} {ds : List Dep} {Q : PD → Prop} {i : Int}
@[simp] theorem walk_sts : walkD (sts xs) = some (xs.map .str) := rfl
@[simp] theorem items_strs : itemsD (sts xs) = some (xs.map .str) := rfl
@[simp] theorem walk_deps : walkD (depsD ds) = some (ds.map depD) := rfl
@[simp] theorem items_deps : itemsD (depsD ds) = some (ds.map depD) := rfl
@[simp high] theorem len_strs : dLen [sts xs] Q = Q (.int xs.length) := by simp [sts]
@[simp high] theorem len_deps : dLen [depsD ds] Q = Q (.int ds.length) := by simp [depsD]
@[simp high] theorem idx_deps : dIdx (depsD ds) (.int i) Q = ofO (L2.atI (ds.map depD) i) Q := rfl
theorem strs_app : PyData.tuple (xs.map .str ++ ys.map .str) = sts (xs ++ ys) := by simp [sts]
@[simp high] theorem add_strs : dAdd (sts xs) (sts ys) Q = (xs.length + ys.length ≤ sizeLine ∧ Q (sts (xs ++ ys))) := by simp [sts]
@[simp] theorem tuple_strs : PyData.tuple (xs.map .str) = sts xs := rfl
theorem eqv_str : PyData.eqv (.str x) (.str y) = decide (x = y) := by
  simp only [PyData.eqv]
  exact Bool.beq_eq_decide_eq x y
theorem any_strs : anyD (xs.map .str) (.str x) = decide (x ∈ xs) := by
  unfold anyD
  rw [List.any_map]
  induction xs with
  | nil => rfl
  | cons y ys ih =>
    rw [List.any_cons, ih]
    simp only [Function.comp, eqv_str]
    by_cases h : y = x
    · simp [h]
    · have h2 : ¬ x = y := fun e => h e.symm
      simp [h, h2]
theorem plain_strs : PyData.plainAll (xs.map .str) = true := by
  induction xs with
  | nil => rfl
  | cons y ys ih => simp [PyData.plainAll, PyData.plain, ih]
theorem depth_strs : PyData.depthAll (xs.map .str) ≤ 50 := by
  have : PyData.depthAll (xs.map .str) ≤ 1 := by
    induction xs with
    | nil => simp [PyData.depthAll]
    | cons y ys ih => simp [PyData.depthAll, PyData.depth]; omega
  omega
theorem pl_str : plD (.str x) := by constructor <;> simp [PyData.plain, PyData.depth]
@[simp high] theorem inn_strs : dInn b (.str x) (sts xs) Q = Q (.bool (if b then !decide (x ∈ xs) else decide (x ∈ xs))) := by
  unfold sts
  rw [inn_t, any_strs]
  exact propext ⟨fun q => q.2, fun q => ⟨⟨pl_str, plain_strs, depth_strs⟩, q⟩⟩
@[simp high] theorem inn_strsl : dInn b (.str x) (.list (xs.map .str)) Q = Q (.bool (if b then !decide (x ∈ xs) else decide (x ∈ xs))) := by
  rw [inn_l, any_strs]
  exact propext ⟨fun q => q.2, fun q => ⟨⟨pl_str, plain_strs, depth_strs⟩, q⟩⟩
theorem eqv_strs : PyData.eqvAll (xs.map .str) (ys.map .str) = decide (xs = ys) := by
  induction xs generalizing ys with
  | nil => cases ys <;> simp [PyData.eqvAll]
  | cons a as ih =>
    cases ys with
    | nil => simp [PyData.eqvAll]
    | cons c cs => simp [PyData.eqvAll, eqv_str, ih]
end
/-- == [] of a list that is plain -/
theorem eq_nil {xs : List PD} (h : PyData.plainAll xs = true) (hd : PyData.depthAll xs ≤ 49) {Q : PD → Prop} (q : Q (.bool xs.isEmpty)) : dEq (.list xs) (.list []) Q := by
  refine ⟨⟨⟨by simpa [PyData.plain] using h, by simp [PyData.depth]; omega⟩, ⟨by simp [PyData.plain, PyData.plainAll], by simp [PyData.depth, PyData.depthAll]⟩⟩, ?_⟩
  have : PyData.eqv (.list xs) (.list []) = xs.isEmpty := by cases xs <;> simp [PyData.eqv, PyData.eqvAll]
  rw [this]; exact q
theorem ne_nil {xs : List PD} (h : PyData.plainAll xs = true) (hd : PyData.depthAll xs ≤ 49) {Q : PD → Prop} (q : Q (.bool (!xs.isEmpty))) : dNe (.list xs) (.list []) Q := by
  refine ⟨⟨⟨by simpa [PyData.plain] using h, by simp [PyData.depth]; omega⟩, ⟨by simp [PyData.plain, PyData.plainAll], by simp [PyData.depth, PyData.depthAll]⟩⟩, ?_⟩
  have : PyData.eqv (.list xs) (.list []) = xs.isEmpty := by cases xs <;> simp [PyData.eqv, PyData.eqvAll]
  rw [this]; exact q
theorem depth_strs1 {xs : List Str} : PyData.depthAll (xs.map .str) ≤ 49 := by
  have : PyData.depthAll (xs.map .str) ≤ 1 := by
    induction xs with
    | nil => simp [PyData.depthAll]
    | cons y ys ih => simp [PyData.depthAll, PyData.depth]; omega
  omega
theorem depth_ints {xs : List Int} : PyData.depthAll (xs.map .int) ≤ 1 := by
  induction xs with
  | nil => simp [PyData.depthAll]
  | cons y ys ih => simp [PyData.depthAll, PyData.depth]; omega
theorem plain_ints {xs : List Int} : PyData.plainAll (xs.map .int) = true := by
  induction xs with
  | nil => rfl
  | cons y ys ih => simp [PyData.plainAll, PyData.plain, ih]
section
variable {xs ys : List Str} {ns : List Int} {a b : Str} {i j : Int} {Q : PD → Prop}
@[simp] theorem eq_strs0 : dEq (.list (xs.map .str)) (.list []) Q = Q (.bool xs.isEmpty) := propext ⟨fun q => by
  have := q.2
  rwa [show PyData.eqv (.list (xs.map .str)) (.list []) = xs.isEmpty by cases xs <;> simp [PyData.eqv, PyData.eqvAll]] at this, fun q => eq_nil plain_strs depth_strs1 (by simpa using q)⟩
@[simp] theorem ne_strs0 : dNe (.list (xs.map .str)) (.list []) Q = Q (.bool (!xs.isEmpty)) := propext ⟨fun q => by
  have := q.2
  rwa [show PyData.eqv (.list (xs.map .str)) (.list []) = xs.isEmpty by cases xs <;> simp [PyData.eqv, PyData.eqvAll]] at this, fun q => ne_nil plain_strs depth_strs1 (by simpa using q)⟩
@[simp] theorem eq_ints0 : dEq (.list (ns.map .int)) (.list []) Q = Q (.bool ns.isEmpty) := propext ⟨fun q => by
  have := q.2
  rwa [show PyData.eqv (.list (ns.map .int)) (.list []) = ns.isEmpty by cases ns <;> simp [PyData.eqv, PyData.eqvAll]] at this, fun q => eq_nil plain_ints (by have := @depth_ints ns; omega) (by simpa using q)⟩
@[simp] theorem eq_i : dEq (.int i) (.int j) Q = Q (.bool (decide (i = j))) := propext ⟨fun q => by
  have := q.2
  rwa [show PyData.eqv (.int i) (.int j) = decide (i = j) by simp only [PyData.eqv]; exact Bool.beq_eq_decide_eq i j] at this, fun q => ⟨⟨⟨rfl, by simp [PyData.depth]⟩, ⟨rfl, by simp [PyData.depth]⟩⟩, by
    rwa [show PyData.eqv (.int i) (.int j) = decide (i = j) by simp only [PyData.eqv]; exact Bool.beq_eq_decide_eq i j]⟩⟩
@[simp] theorem ne_i : dNe (.int i) (.int j) Q = Q (.bool (!decide (i = j))) := propext ⟨fun q => by
  have := q.2
  rwa [show PyData.eqv (.int i) (.int j) = decide (i = j) by simp only [PyData.eqv]; exact Bool.beq_eq_decide_eq i j] at this, fun q => ⟨⟨⟨rfl, by simp [PyData.depth]⟩, ⟨rfl, by simp [PyData.depth]⟩⟩, by
    rwa [show PyData.eqv (.int i) (.int j) = decide (i = j) by simp only [PyData.eqv]; exact Bool.beq_eq_decide_eq i j]⟩⟩
@[simp] theorem eq_s : dEq (.str a) (.str b) Q = Q (.bool (decide (a = b))) := propext ⟨fun q => by
  have := q.2
  rwa [eqv_str] at this, fun q => ⟨⟨pl_str, pl_str⟩, by rwa [eqv_str]⟩⟩
end
/-! ## sorted columns -/
theorem le_anti : ∀ a ∈ LET, ∀ b ∈ LET, leD (.str a) (.str b) = true → leD (.str b) (.str a) = true → a = b := by decide +kernel
theorem le_pair : LET.Pairwise fun a b => leD (.str a) (.str b) = true := by decide +kernel
theorem sort_let {l : List Str} (h : Cols l) : (l.map PyData.str).mergeSort leD = (LET.filter (· ∈ l)).map .str := by
  have tot : PySem.W.TotalLe leD := PySem.W.sortLe_total _ false _
  have inj : ∀ {l : List Str}, l.Nodup → (l.map PyData.str).Nodup := fun {l} nd => by
    induction l with
    | nil => exact List.nodup_nil
    | cons x xs ih =>
      rw [List.map_cons]
      refine List.nodup_cons.mpr ⟨fun m => ?_, ih (List.nodup_cons.mp nd).2⟩
      obtain ⟨y, hy, e⟩ := List.mem_map.mp m
      cases e
      exact (List.nodup_cons.mp nd).1 hy
  refine List.Perm.eq_of_pairwise (le := fun a b => leD a b = true) ?_ (List.pairwise_mergeSort (fun a b c => tot.trans a b c) (fun a b => by rw [Bool.or_eq_true]; exact tot.total a b) _) ?_ ((List.mergeSort_perm _ _).trans ?_)
  · intro a b ha hb h1 h2
    have ha' := (List.mergeSort_perm _ _).mem_iff.mp ha
    obtain ⟨x, hx, rfl⟩ := List.mem_map.mp ha'
    obtain ⟨y, hy, rfl⟩ := List.mem_map.mp hb
    rw [le_anti x (h.sub x hx) y (List.mem_filter.mp hy).1 h1 h2]
  · rw [List.pairwise_map]
    exact le_pair.sublist List.filter_sublist
  · refine (List.perm_ext_iff_of_nodup (inj h.nd) (inj (LET_nd.sublist List.filter_sublist))).mpr fun a => ?_
    constructor
    · intro m
      obtain ⟨x, hx, rfl⟩ := List.mem_map.mp m
      exact List.mem_map.mpr ⟨x, List.mem_filter.mpr ⟨h.sub x hx, by simpa using hx⟩, rfl⟩
    · intro m
      obtain ⟨x, hx, rfl⟩ := List.mem_map.mp m
      exact List.mem_map.mpr ⟨x, by simpa using (List.mem_filter.mp hx).2, rfl⟩
theorem sortOk_strs {xs : List Str} : sortOk (xs.map .str) := by
  refine ⟨⟨plain_strs, depth_strs⟩, PySem.W.AllAlike.of fun _ _ => rfl, .inr fun d m => ?_⟩
  obtain ⟨x, _, rfl⟩ := List.mem_map.mp m
  exact ⟨nofun, nofun⟩
end K60
set_option Elab.async false
set_option linter.all false
set_option maxRecDepth 100000
namespace K60
open PySem L3
/-! ## what each def answers -/
def dedup {α : Type} [DecidableEq α] (xs : List α) : List α := xs.foldl (fun acc x => if x ∈ acc then acc else acc ++ [x]) []
inductive Led (ds : List Dep) (cs : List Str) : Str → Prop
  | base {x : Str} : x ∈ cs → Led ds cs x
  | step {d : Dep} {x : Str} : d ∈ ds → (∀ y ∈ d.1, Led ds cs y) → x ∈ d.2 → Led ds cs x
open Classical in
noncomputable def ledL (ds : List Dep) (cs : List Str) : List Str := LET.filter fun x => decide (Led ds cs x)
def AllLed (ds : List Dep) (d : Dep) : Prop := ∀ x ∈ d.2, Led ds d.1 x
/-- the columns of all -/
def allC (ds : List Dep) : List Str := LET.filter fun x => ds.any fun d => decide (x ∈ d.1 ∨ x ∈ d.2)
def nums (ns : List Int) : PD := .tuple (ns.map .int)
def S_once : DS := fun ds R => ∃ xs : List PD, ds = [.tuple xs] ∧ xs.all atomD = true ∧ xs.length ≤ sizeLine ∧ R (.dat (.tuple (dedup xs)))
def S_closure : DS := fun ds R => ∃ (dps : List Dep) (cs : List Str), ds = [depsD dps, sts cs] ∧ Wf dps ∧ Cols cs ∧ R (.dat (sts (ledL dps cs)))
def S__law_closure : DS := S_closure
def S_columns_of : DS := fun ds R => ∃ (dps : List Dep), ds = [depsD dps] ∧ dps.length ≤ 7 ∧ (∀ d ∈ dps, Cols d.1 ∧ Cols d.2) ∧ R (.dat (sts (allC dps)))
def S_has_all : DS := fun ds R => ∃ (xs known : List Str), ds = [sts xs, sts known] ∧ xs.length ≤ sizeLine ∧ R (.dat (.bool (xs.all (· ∈ known))))
/-- how steps lead -/
def runS (dps : List Dep) (had : List Str) : List Int → Option (List Str)
  | [] => some had
  | k :: r => if 0 ≤ k ∧ k < dps.length then (match dps[k.toNat]? with
    | some d => if d.1.all (· ∈ had) then runS dps (had ++ d.2) r else none
    | none => none) else none
def leadsB (dps : List Dep) (dep : Dep) (st : List Int) : Bool := decide st.Nodup && (match runS dps dep.1 st with
  | some had => dep.2.all (· ∈ had)
  | none => false)
def S_steps_to : DS := fun ds R => ∃ (dps : List Dep) (l r : List Str), ds = [depsD dps, sts l, sts r] ∧ Wf dps ∧ Cols l ∧ Cols r ∧ (¬ AllLed dps (l, r) → R (.dat .none)) ∧ ∀ st : List Int, leadsB dps (l, r) st = true → st.length ≤ 6 → R (.dat (nums st))
def bitsD (bs : List Int) : PD := .tuple (bs.map .int)
def agreeB (cols : List Str) (one other : List Int) (own : List Str) : Bool := (List.range cols.length).all fun k => !decide (cols[k]?.getD ("" : Str) ∈ own) || decide (one[k]? = other[k]?)
def keepB (cols : List Str) (dps : List Dep) (one other : List Int) : Bool := dps.all fun d => !agreeB cols one other d.1 || agreeB cols one other d.2
def breakB (dps : List Dep) (dep : Dep) (one other : List Int) : Bool := keepB (allC (dps ++ [dep])) dps one other && !keepB (allC (dps ++ [dep])) [dep] one other
def S_follows : DS := fun ds R => ∃ (dps : List Dep) (dep : Dep), ds = [depsD dps, depD dep] ∧ Wf dps ∧ Cols dep.1 ∧ Cols dep.2 ∧
  (AllLed dps dep → ∀ st : List Int, leadsB dps dep st = true → st.length ≤ 6 → R (.dat (.tuple [.str "yes", nums st]))) ∧
  (¬ AllLed dps dep → ∀ one other : List Int, one.length = (allC (dps ++ [dep])).length → other.length = (allC (dps ++ [dep])).length → (∀ b ∈ one ++ other, 0 ≤ b ∧ b < 2) → breakB dps dep one other = true → R (.dat (.tuple [.str "no", .tuple [nums one, nums other]])))
def S_is_leading : DS := fun ds R => ∃ (dps : List Dep) (dep : Dep) (st : List Int), ds = [depsD dps, depD dep, nums st] ∧ Wf dps ∧ Cols dep.1 ∧ Cols dep.2 ∧ st.length ≤ 100 ∧ R (.dat (.bool (leadsB dps dep st)))
def S__law_leads : DS := S_is_leading
def S_agrees : DS := fun ds R => ∃ (cols own : List Str) (one other : List Int), ds = [sts cols, nums one, nums other, sts own] ∧ one.length = cols.length ∧ other.length = cols.length ∧ cols.length ≤ 6 ∧ R (.dat (.bool (agreeB cols one other own)))
def S__law_agree : DS := fun ds R => ∃ (cols own : List Str) (one other : List Int), ds = [.list (cols.map .str), nums one, nums other, sts own] ∧ one.length = cols.length ∧ other.length = cols.length ∧ cols.length ≤ 6 ∧ R (.dat (.bool (agreeB cols one other own)))
def S_keeps : DS := fun ds R => ∃ (cols : List Str) (dps : List Dep) (one other : List Int), ds = [sts cols, depsD dps, nums one, nums other] ∧ one.length = cols.length ∧ other.length = cols.length ∧ cols.length ≤ 6 ∧ R (.dat (.bool (keepB cols dps one other)))
def S_is_breaking : DS := fun ds R => ∃ (dps : List Dep) (dep : Dep) (one other : List Int), ds = [depsD dps, depD dep, nums one, nums other] ∧ Wf dps ∧ Cols dep.1 ∧ Cols dep.2 ∧ one.length = (allC (dps ++ [dep])).length ∧ other.length = (allC (dps ++ [dep])).length ∧ R (.dat (.bool (breakB dps dep one other)))
def S__law_breaks : DS := S_is_breaking
/-- what is drawn -/
def wD (dr : List Int) (at_ : Int) : O := .dic [(.str "draws", .list (dr.map .int)), (.str "at", .int at_)]
structure Drs (dr : List Int) (at_ : Int) : Prop where
  len : dr.length ≤ 900
  at0 : 0 ≤ at_
def S__law_draws : DM := fun o ds R => ∃ (ns : List Int), o = .scr ns ∧ ds = [.int 900] ∧ ns.length ≤ 63 ∧ ∀ dr : List Int, dr.length ≤ 900 → R (.dat (.list (dr.map .int))) (.scr ns)
def S__law_next : DM := fun o ds R => ∃ (dr : List Int) (a m : Int), o = wD dr a ∧ ds = [.int m] ∧ Drs dr a ∧ 0 < m ∧ ∀ r a' : Int, Drs dr a' → 0 ≤ r → r < m → R (.dat (.int r)) (wD dr a')
def S__law_pick : DM := fun o ds R => ∃ (dr : List Int) (a : Int) (xs : List PD), o = wD dr a ∧ ds = [.tuple xs] ∧ Drs dr a ∧ 0 < xs.length ∧ ∀ (x : PD) (a' : Int), Drs dr a' → x ∈ xs → R (.dat x) (wD dr a')
def S__law_some : DM := fun o ds R => ∃ (dr : List Int) (a m : Int) (cols : List Str), o = wD dr a ∧ ds = [sts cols, .int m] ∧ Drs dr a ∧ 0 ≤ m ∧ m ≤ 10 ∧ Cols cols ∧ 0 < cols.length ∧ ∀ (xs : List Str) (a' : Int), Drs dr a' → Cols xs → R (.dat (sts xs)) (wD dr a')
def S__law_deps : DM := fun o ds R => ∃ (dr : List Int) (a m : Int) (cols : List Str), o = wD dr a ∧ ds = [sts cols, .int m] ∧ Drs dr a ∧ 0 ≤ m ∧ m ≤ 3 ∧ Cols cols ∧ 0 < cols.length ∧ ∀ (dps : List Dep) (a' : Int), Drs dr a' → Wf dps → R (.dat (depsD dps)) (wD dr a')
open Classical in
def S__law_holds : DS := fun ds R => ∃ (dps : List Dep) (dep : Dep), ds = [depsD dps, depD dep] ∧ Wf dps ∧ Cols dep.1 ∧ Cols dep.2 ∧ R (.dat (.bool (decide (AllLed dps dep))))
def S__law_columns : DS := fun ds R => ∃ (dps : List Dep) (dep : Dep), ds = [depsD dps, depD dep] ∧ Wf dps ∧ Cols dep.1 ∧ Cols dep.2 ∧ R (.dat (.list ((allC (dps ++ [dep])).map .str)))
def S__law_is_row : DS := fun ds R => ∃ (row : List Int) (many most : Int), ds = [nums row, .int many, .int most] ∧ row.length ≤ 100 ∧ (many < 0 ∨ many = row.length) ∧ (∀ x ∈ row, 0 ≤ x ∧ x < most) ∧ R (.dat (.bool true))
/-- told and due are the same -/
def okA : Nat → PD → Prop
  | 0, _ => False
  | _ + 1, .none => True
  | _ + 1, .bool _ => True
  | _ + 1, .int _ => True
  | _ + 1, .str _ => True
  | m + 1, .tuple xs => xs.length ≤ 1000 ∧ ∀ x ∈ xs, okA m x
  | _ + 1, .list _ => False
  | _ + 1, .dict _ => False
def S__law_alike (m : Nat) : DS := fun ds R => ∃ d : PD, ds = [d, d] ∧ okA m d ∧ R (.dat (.bool true))
def S__law_is_told : DS := fun ds R => ∃ (dps : List Dep) (dep : Dep) (told : PD), ds = [depsD dps, depD dep, told] ∧ Wf dps ∧ Cols dep.1 ∧ Cols dep.2 ∧
  ((AllLed dps dep ∧ ∃ st : List Int, leadsB dps dep st = true ∧ st.length ≤ 6 ∧ told = .tuple [.str "yes", nums st]) ∨
   (¬ AllLed dps dep ∧ ∃ one other : List Int, one.length = (allC (dps ++ [dep])).length ∧ other.length = (allC (dps ++ [dep])).length ∧ (∀ b ∈ one ++ other, 0 ≤ b ∧ b < 2) ∧ breakB dps dep one other = true ∧ told = .tuple [.str "no", .tuple [nums one, nums other]])) ∧ R (.dat (.bool true))
def S_law : DM := fun o ds R => ∃ (ns : List Int), o = .scr ns ∧ ds = [] ∧ ns.length ≤ 63 ∧ R (.dat (.bool true)) (.scr ns)
end K60
set_option Elab.async false
set_option linter.all false
set_option maxRecDepth 100000
namespace K60
open PySem L3
def W_once : WS :=
  (sSeq (sSetO 1 wDic0)
  (sSeq (sFor (iSq (up (wDat 0))) (gD 2)
    (sPut 1 (up (wDat 2)) (up (wC (.bool true)))))
  (sRet (up (wn dTuple (wCons (wVar 1) wNil))))))
def W_closure : WS :=
  (sSeq (sSet 2 (wFz (wCall 1 S_once (wConsE (up (wDat 1)) wNilE))))
  (sSeq (sSet 3 (up (wC (.bool true))))
  (sSeq (sWh (upT (wB (wDat 3)))
    (sSeq (sSet 3 (up (wC (.bool false))))
    (sFor (iSq (up (wDat 0))) (gTupD 2 (gsCons (gD 4) (gsCons (gD 5) gsNil)))
      (sSeq (sSet 6 (wFz (wLc [7] (iSq (up (wDat 5))) (gD 7) (upT (wB (w2 dNotIn (wDat 7) (wDat 2)))) (up (wDat 7)))))
      (sIf (upT (wAnd (wB (w2 dNe (wDat 6) (wLst wNil))) (wB (w2 dEq (wDn (wFz (wLc [7] (iSq (up (wDat 4))) (gD 7) (upT (wB (w2 dNotIn (wDat 7) (wDat 2)))) (up (wDat 7))))) (wLst wNil)))))
        (sSeq (sSet 2 (up (w2 dAdd (wDat 2) (wn dTuple (wCons (wDat 6) wNil)))))
        (sSet 3 (up (wC (.bool true)))))
        sNx)))))
  (sRet (up (wn dTuple (wCons (wn dSorted (wCons (wDat 2) wNil)) wNil)))))))
def W_columns_of : WS :=
  (sRet (up (wn dTuple (wCons (wn dSorted (wCons (wDn (wFz (wCall 1 S_once (wConsE (up (wn dSum (wCons (wDn (wFz (wLc [1, 2] (iSq (up (wDat 0))) (gTupD 2 (gsCons (gD 1) (gsCons (gD 2) gsNil))) wYes (up (w2 dAdd (wDat 1) (wDat 2)))))) (wCons (wTup wNil) wNil)))) wNilE)))) wNil)) wNil))))
def W_has_all : WS :=
  (sRet (up (w2 dEq (wDn (wFz (wLc [2] (iSq (up (wDat 0))) (gD 2) (upT (wB (w2 dNotIn (wDat 2) (wDat 1)))) (up (wDat 2))))) (wLst wNil))))
def W_steps_to : WS :=
  (sSeq (sSet 3 (wFz (wCall 1 S_once (wConsE (up (wDat 1)) wNilE))))
  (sSeq (sSet 4 (up (wTup wNil)))
  (sSeq (sWh (upT (wNot (wB (wDn (wFz (wCall 2 S_has_all (wConsE (up (wDat 2)) (wConsE (up (wDat 3)) wNilE))))))))
    (sSeq (sSetO 5 (wLstO wNilE))
    (sSeq (sFor (iR1 (wConsE (up (wn dLen (wCons (wDat 0) wNil))) wNilE)) (gD 6)
      (sIf (upT (wAnd (wB (w2 dNotIn (wDat 6) (wDat 4))) (wB (wDn (wFz (wCall 2 S_has_all (wConsE (up (w2 dIdx (w2 dIdx (wDat 0) (wDat 6)) (wC (.int 0)))) (wConsE (up (wDat 3)) wNilE))))))))
        (sEx (wOwn "list" 5 fApp (wConsE (up (wDat 6)) wNilE)))
        sNx))
    (sSeq (sIf (upT (wB (w2 dEq (wVar 5) (wLst wNil))))
      (sRet (up (wC .none)))
      sNx)
    (sSeq (sSet 4 (up (w2 dAdd (wDat 4) (wTup (wCons (w2 dIdx (wVar 5) (wC (.int 0))) wNil)))))
    (sSet 3 (wFz (wCall 1 S_once (wConsE (up (w2 dAdd (wDat 3) (w2 dIdx (w2 dIdx (wDat 0) (w2 dIdx (wVar 5) (wC (.int 0)))) (wC (.int 1))))) wNilE)))))))))
  (sRet (up (wDat 4))))))
def W_follows : WS :=
  (sSeq (sSet 2 (wFz (wCall 3 S_steps_to (wConsE (up (wDat 0)) (wConsE (up (w2 dIdx (wDat 1) (wC (.int 0)))) (wConsE (up (w2 dIdx (wDat 1) (wC (.int 1)))) wNilE))))))
  (sSeq (sIf (upT (wB (wNotN (wDat 2))))
    (sRet (up (wTup (wCons (wC (.str "yes")) (wCons (wDat 2) wNil)))))
    sNx)
  (sSeq (sSet 3 (wFz (wCall 1 S_columns_of (wConsE (up (w2 dAdd (wn dTuple (wCons (wDat 0) wNil)) (wTup (wCons (wDat 1) wNil)))) wNilE))))
  (sSeq (sSet 4 (wFz (wCall 2 S_closure (wConsE (up (wDat 0)) (wConsE (up (w2 dIdx (wDat 1) (wC (.int 0)))) wNilE)))))
  (sRet (up (wTup (wCons (wC (.str "no")) (wCons (wTup (wCons (wn dTuple (wCons (w2 dMul (wLst (wCons (wC (.int 0)) wNil)) (wn dLen (wCons (wDat 3) wNil))) wNil)) (wCons (wn dTuple (wCons (wDn (wFz (wLc [5] (iSq (up (wDat 3))) (gD 5) wYes (up (wIf (wB (w2 dIn (wDat 5) (wDat 4))) (wC (.int 0)) (wC (.int 1))))))) wNil)) wNil))) wNil)))))))))
def W_is_leading : WS :=
  (sSeq (sIf (upT (wOr (wNot (wB (wIsi "tuple" (wDat 2)))) (wB (w2 dNe (wn dLen (wCons (wDn (wFz (wCall 1 S_once (wConsE (up (wDat 2)) wNilE)))) wNil)) (wn dLen (wCons (wDat 2) wNil))))))
    (sRet (up (wC (.bool false))))
    sNx)
  (sSeq (sSet 3 (wFz (wCall 1 S_once (wConsE (up (w2 dIdx (wDat 1) (wC (.int 0)))) wNilE))))
  (sSeq (sFor (iSq (up (wDat 2))) (gD 4)
    (sSeq (sIf (upT (wOr (wB (wIsi "bool" (wDat 4))) (wOr (wNot (wB (wIsi "int" (wDat 4)))) (wOr (wNot (wBChn dLe dLt (wC (.int 0)) (wDat 4) (wn dLen (wCons (wDat 0) wNil)))) (wNot (wB (wDn (wFz (wCall 2 S_has_all (wConsE (up (w2 dIdx (w2 dIdx (wDat 0) (wDat 4)) (wC (.int 0)))) (wConsE (up (wDat 3)) wNilE)))))))))))
      (sRet (up (wC (.bool false))))
      sNx)
    (sSet 3 (wFz (wCall 1 S_once (wConsE (up (w2 dAdd (wDat 3) (w2 dIdx (w2 dIdx (wDat 0) (wDat 4)) (wC (.int 1))))) wNilE))))))
  (sRet (wFz (wCall 2 S_has_all (wConsE (up (w2 dIdx (wDat 1) (wC (.int 1)))) (wConsE (up (wDat 3)) wNilE))))))))
def W_agrees : WS :=
  (sRet (up (w2 dEq (wDn (wFz (wLc [4] (iR1 (wConsE (up (wn dLen (wCons (wDat 0) wNil))) wNilE)) (gD 4) (upT (wAnd (wB (w2 dIn (w2 dIdx (wDat 0) (wDat 4)) (wDat 3))) (wB (w2 dNe (w2 dIdx (wDat 1) (wDat 4)) (w2 dIdx (wDat 2) (wDat 4)))))) (up (wDat 4))))) (wLst wNil))))
def W_keeps : WS :=
  (sSeq (sFor (iSq (up (wDat 1))) (gTupD 2 (gsCons (gD 4) (gsCons (gD 5) gsNil)))
    (sIf (upT (wAnd (wB (wDn (wFz (wCall 4 S_agrees (wConsE (up (wDat 0)) (wConsE (up (wDat 2)) (wConsE (up (wDat 3)) (wConsE (up (wDat 4)) wNilE)))))))) (wNot (wB (wDn (wFz (wCall 4 S_agrees (wConsE (up (wDat 0)) (wConsE (up (wDat 2)) (wConsE (up (wDat 3)) (wConsE (up (wDat 5)) wNilE)))))))))))
      (sRet (up (wC (.bool false))))
      sNx))
  (sRet (up (wC (.bool true)))))
def W_is_breaking : WS :=
  (sSeq (sSet 4 (wFz (wCall 1 S_columns_of (wConsE (up (w2 dAdd (wn dTuple (wCons (wDat 0) wNil)) (wTup (wCons (wDat 1) wNil)))) wNilE))))
  (sSeq (sFor (iSq (up (wTup (wCons (wDat 2) (wCons (wDat 3) wNil))))) (gD 5)
    (sIf (upT (wOr (wNot (wB (wIsi "tuple" (wDat 5)))) (wB (w2 dNe (wn dLen (wCons (wDat 5) wNil)) (wn dLen (wCons (wDat 4) wNil))))))
      (sRet (up (wC (.bool false))))
      sNx))
  (sRet (up (wAndV (wDn (wFz (wCall 4 S_keeps (wConsE (up (wDat 4)) (wConsE (up (wDat 0)) (wConsE (up (wDat 2)) (wConsE (up (wDat 3)) wNilE))))))) (wNotV (wDn (wFz (wCall 4 S_keeps (wConsE (up (wDat 4)) (wConsE (up (wTup (wCons (wDat 1) wNil))) (wConsE (up (wDat 2)) (wConsE (up (wDat 3)) wNilE)))))))))))))
def W__law_draws : WS :=
  (sSeq (sSetO 2 (wLstO wNilE))
  (sSeq (sSet 3 (up (wC (.int 7))))
  (sSeq (sFor (iR1 (wConsE (up (wLenS 0)) wNilE)) (gD 4)
    (sSeq (sSet 5 (up (wn dAbs (wCons (wn dInt (wCons (wScr 0 (wDat 4)) wNil)) wNil))))
    (sSeq (sSet 3 (up (w2 dMod (wn dInt (wCons (w2 dAdd (w2 dAdd (w2 dMul (wDat 3) (wC (.int 48271))) (w2 dMod (wDat 5) (wC (.int 1000003)))) (wDat 4)) wNil)) (wC (.int 65537)))))
    (sSeq (sSet 6 (up (wC (.int 0))))
    (sSeq (sIf (upT (wB (w2 dGe (wDat 5) (w2 dPow (wC (.int 10)) (wC (.int 18))))))
      (sSet 6 (up (wDat 5)))
      (sSeq (sEx (wOwn "list" 2 fApp (wConsE (up (w2 dMod (wn dInt (wCons (wDat 5) wNil)) (wC (.int 997)))) wNilE)))
      (sEx (wOwn "list" 2 fApp (wConsE (up (w2 dMod (w2 dMod (wn dInt (wCons (w2 dAdd (w2 dMul (wDat 3) (wC (.int 69621))) (wC (.int 5))) wNil)) (wC (.int 65521))) (wC (.int 997)))) wNilE)))))
    (sFor (iR1 (wConsE (up (wC (.int 60))) wNilE)) (gD 7)
      (sIf (upT (wB (w2 dGt (wDat 6) (wC (.int 0)))))
        (sSeq (sEx (wOwn "list" 2 fApp (wConsE (up (w2 dMod (wn dInt (wCons (wDat 6) wNil)) (wC (.int 997)))) wNilE)))
        (sSet 6 (up (w2 dFDiv (wDat 6) (wC (.int 997))))))
        sNx)))))))
  (sSeq (sFor (iR1 (wConsE (up (wDat 1)) wNilE)) (gD 4)
    (sSeq (sSet 3 (up (w2 dMod (wn dInt (wCons (w2 dAdd (w2 dAdd (w2 dMul (wDat 3) (wC (.int 16807))) (wDat 4)) (wC (.int 1))) wNil)) (wC (.int 65537)))))
    (sEx (wOwn "list" 2 fApp (wConsE (up (w2 dMod (wn dInt (wCons (wDat 3) wNil)) (wC (.int 997)))) wNilE)))))
  (sRet (up (wSl (wVar 2) wNoP (wPt (wDat 1)))))))))
def W__law_next : WS :=
  (sSeq (sAug 0 (up (wC (.str "at"))) (up (wC (.int 1))))
  (sSeq (sIf (upT (wB (w2 dGt (w2 dIdx (wVar 0) (wC (.str "at"))) (wn dLen (wCons (w2 dIdx (wVar 0) (wC (.str "draws"))) wNil)))))
    (sRet (up (wC (.int 0))))
    sNx)
  (sRet (up (w2 dMod (wn dInt (wCons (w2 dIdx (w2 dIdx (wVar 0) (wC (.str "draws"))) (w2 dSub (w2 dIdx (wVar 0) (wC (.str "at"))) (wC (.int 1)))) wNil)) (wDat 1))))))
def W__law_pick : WS :=
  (sRet (w2E dIdx (up (wDat 1)) (wFz (wCallM 0 1 S__law_next (wConsE (up (wn dLen (wCons (wDat 1) wNil))) wNilE)))))
def W__law_alike (m : Nat) : WS :=
  (sSeq (sIf (upT (wB (wIsi "tuple" (wDat 1))))
    (sSeq (sIf (upT (wOr (wNot (wB (wIsi "tuple" (wDat 0)))) (wB (w2 dNe (wn dLen (wCons (wDat 0) wNil)) (wn dLen (wCons (wDat 1) wNil))))))
      (sRet (up (wC (.bool false))))
      sNx)
    (sRet (up (w2 dEq (wDn (wFz (wLc [2] (iR1 (wConsE (up (wn dLen (wCons (wDat 1) wNil))) wNilE)) (gD 2) (upT (wNot (wB (wDn (wFz (wCall 2 (S__law_alike m) (wConsE (up (w2 dIdx (wDat 0) (wDat 2))) (wConsE (up (w2 dIdx (wDat 1) (wDat 2))) wNilE)))))))) (up (wDat 2))))) (wLst wNil)))))
    sNx)
  (sSeq (sIf (upT (wB (wIsN (wDat 1))))
    (sRet (up (wIsN (wDat 0))))
    sNx)
  (sSeq (sIf (upT (wB (wIsi "bool" (wDat 1))))
    (sRet (up (wAndV (wIsi "bool" (wDat 0)) (w2 dEq (wDat 0) (wDat 1)))))
    sNx)
  (sSeq (sIf (upT (wB (wIsi "int" (wDat 1))))
    (sRet (up (wAndV (wIsi "int" (wDat 0)) (wAndV (wNotV (wIsi "bool" (wDat 0))) (w2 dEq (wDat 0) (wDat 1))))))
    sNx)
  (sRet (up (wAndV (wIsi "str" (wDat 0)) (w2 dEq (wDat 0) (wDat 1)))))))))
def W__law_some : WS :=
  (sSeq (sSetO 3 (wLstO wNilE))
  (sSeq (sFor (iR1 (wConsE (up (wDat 2)) wNilE)) (gD 4)
    (sEx (wOwn "list" 3 fApp (wConsE (wFz (wCallM 0 1 S__law_pick (wConsE (up (wDat 1)) wNilE))) wNilE))))
  (sRet (wnE dTuple (wConsE (wFz (wLc [5] (iSq (up (wDat 1))) (gD 5) (upT (wB (w2 dIn (wDat 5) (wVar 3)))) (up (wDat 5)))) wNilE)))))
def W__law_deps : WS :=
  (sSeq (sSetO 3 (wLstO wNilE))
  (sSeq (sFor (iR1 (wConsE (wFz (wCallM 0 1 S__law_next (wConsE (up (wC (.int 7))) wNilE))) wNilE)) (gD 4)
    (sSeq (sSet 5 (wFz (wCallM 0 2 S__law_some (wConsE (up (wDat 1)) (wConsE (w2E dAdd (up (wDat 2)) (wFz (wCallM 0 1 S__law_next (wConsE (up (w2 dSub (wC (.int 4)) (wDat 2))) wNilE)))) wNilE)))))
    (sEx (wOwn "list" 3 fApp (wConsE (wTupE (wConsE (up (wDat 5)) (wConsE (wFz (wCallM 0 2 S__law_some (wConsE (up (wDat 1)) (wConsE (w2E dAdd (up (wDat 2)) (wFz (wCallM 0 1 S__law_next (wConsE (up (w2 dSub (wC (.int 4)) (wDat 2))) wNilE)))) wNilE)))) wNilE))) wNilE)))))
  (sRet (up (wn dTuple (wCons (wVar 3) wNil))))))
def W__law_closure : WS :=
  (sSeq (sSet 2 (wFz (wLc [4] (iSq (up (wDat 1))) (gD 4) wYes (up (wDat 4)))))
  (sSeq (sFor (iR1 (wConsE (up (w2 dAdd (wn dLen (wCons (wDat 0) wNil)) (wC (.int 1)))) wNilE)) (gD 3)
    (sFor (iSq (up (wDat 0))) (gTupD 2 (gsCons (gD 5) (gsCons (gD 6) gsNil)))
      (sIf (upT (wB (w2 dEq (wDn (wFz (wLc [4] (iSq (up (wDat 5))) (gD 4) (upT (wB (w2 dNotIn (wDat 4) (wDat 2)))) (up (wDat 4))))) (wLst wNil))))
        (sSet 2 (up (w2 dAdd (wDat 2) (wDn (wFz (wLc [4] (iSq (up (wDat 6))) (gD 4) (upT (wB (w2 dNotIn (wDat 4) (wDat 2)))) (up (wDat 4))))))))
        sNx)))
  (sRet (up (wn dTuple (wCons (wn dSorted (wCons (wDn (wFz (wLc [4] (iSq (up (wDat 2))) (gD 4) wYes (up (wn dStr (wCons (wDat 4) wNil)))))) wNil)) wNil))))))
def W__law_holds : WS :=
  (sSeq (sSet 2 (wFz (wCall 2 S__law_closure (wConsE (up (wDat 0)) (wConsE (up (w2 dIdx (wDat 1) (wC (.int 0)))) wNilE)))))
  (sRet (up (w2 dEq (wDn (wFz (wLc [3] (iSq (up (w2 dIdx (wDat 1) (wC (.int 1))))) (gD 3) (upT (wB (w2 dNotIn (wDat 3) (wDat 2)))) (up (wDat 3))))) (wLst wNil)))))
def W__law_columns : WS :=
  (sSeq (sSet 2 (up (w2 dAdd (wn dList (wCons (w2 dIdx (wDat 1) (wC (.int 0))) wNil)) (wn dList (wCons (w2 dIdx (wDat 1) (wC (.int 1))) wNil)))))
  (sSeq (sFor (iSq (up (wDat 0))) (gTupD 2 (gsCons (gD 3) (gsCons (gD 4) gsNil)))
    (sSet 2 (up (w2 dAdd (w2 dAdd (wDat 2) (wn dList (wCons (wDat 3) wNil))) (wn dList (wCons (wDat 4) wNil))))))
  (sRet (wFz (wLc [5] (iSq (up (wLst (wCons (wC (.str "a")) (wCons (wC (.str "b")) (wCons (wC (.str "c1")) (wCons (wC (.str "d_")) (wCons (wC (.str "e")) (wCons (wC (.str "f")) wNil))))))))) (gD 5) (upT (wB (w2 dIn (wDat 5) (wDat 2)))) (up (wDat 5)))))))
def W__law_leads : WS :=
  (sSeq (sSet 3 (up (wn dList (wCons (w2 dIdx (wDat 1) (wC (.int 0))) wNil))))
  (sSeq (sSetO 4 (wLstO wNilE))
  (sSeq (sFor (iSq (up (wDat 2))) (gD 5)
    (sSeq (sIf (upT (wOr (wB (w2 dLt (wDat 5) (wC (.int 0)))) (wOr (wB (w2 dGe (wDat 5) (wn dLen (wCons (wDat 0) wNil)))) (wOr (wB (w2 dIn (wDat 5) (wVar 4))) (wB (w2 dNe (wDn (wFz (wLc [6] (iSq (up (w2 dIdx (w2 dIdx (wDat 0) (wDat 5)) (wC (.int 0))))) (gD 6) (upT (wB (w2 dNotIn (wDat 6) (wDat 3)))) (up (wDat 6))))) (wLst wNil)))))))
      (sRet (up (wC (.bool false))))
      sNx)
    (sSeq (sEx (wOwn "list" 4 fApp (wConsE (up (wDat 5)) wNilE)))
    (sSet 3 (up (w2 dAdd (wDat 3) (wn dList (wCons (w2 dIdx (w2 dIdx (wDat 0) (wDat 5)) (wC (.int 1))) wNil))))))))
  (sRet (up (w2 dEq (wDn (wFz (wLc [6] (iSq (up (w2 dIdx (wDat 1) (wC (.int 1))))) (gD 6) (upT (wB (w2 dNotIn (wDat 6) (wDat 3)))) (up (wDat 6))))) (wLst wNil)))))))
def W__law_agree : WS :=
  (sRet (up (w2 dEq (wDn (wFz (wLc [4] (iR1 (wConsE (up (wn dLen (wCons (wDat 0) wNil))) wNilE)) (gD 4) (upT (wAnd (wB (w2 dIn (w2 dIdx (wDat 0) (wDat 4)) (wDat 3))) (wB (w2 dNe (w2 dIdx (wDat 1) (wDat 4)) (w2 dIdx (wDat 2) (wDat 4)))))) (up (wDat 4))))) (wLst wNil))))
def W__law_breaks : WS :=
  (sSeq (sSet 4 (wFz (wCall 2 S__law_columns (wConsE (up (wDat 0)) (wConsE (up (wDat 1)) wNilE)))))
  (sSeq (sFor (iSq (up (wDat 0))) (gTupD 2 (gsCons (gD 5) (gsCons (gD 6) gsNil)))
    (sIf (upT (wAnd (wB (wDn (wFz (wCall 4 S__law_agree (wConsE (up (wDat 4)) (wConsE (up (wDat 2)) (wConsE (up (wDat 3)) (wConsE (up (wDat 5)) wNilE)))))))) (wNot (wB (wDn (wFz (wCall 4 S__law_agree (wConsE (up (wDat 4)) (wConsE (up (wDat 2)) (wConsE (up (wDat 3)) (wConsE (up (wDat 6)) wNilE)))))))))))
      (sRet (up (wC (.bool false))))
      sNx))
  (sRet (up (wAndV (wDn (wFz (wCall 4 S__law_agree (wConsE (up (wDat 4)) (wConsE (up (wDat 2)) (wConsE (up (wDat 3)) (wConsE (up (w2 dIdx (wDat 1) (wC (.int 0)))) wNilE))))))) (wNotV (wDn (wFz (wCall 4 S__law_agree (wConsE (up (wDat 4)) (wConsE (up (wDat 2)) (wConsE (up (wDat 3)) (wConsE (up (w2 dIdx (wDat 1) (wC (.int 1)))) wNilE)))))))))))))
def W__law_is_row : WS :=
  (sSeq (sIf (upT (wOr (wNot (wB (wIsi "tuple" (wDat 0)))) (wAnd (wB (w2 dGe (wDat 1) (wC (.int 0)))) (wB (w2 dNe (wn dLen (wCons (wDat 0) wNil)) (wDat 1))))))
    (sRet (up (wC (.bool false))))
    sNx)
  (sRet (up (w2 dEq (wDn (wFz (wLc [3] (iSq (up (wDat 0))) (gD 3) (upT (wOr (wNot (wB (wIsi "int" (wDat 3)))) (wOr (wB (wIsi "bool" (wDat 3))) (wOr (wB (w2 dLt (wDat 3) (wC (.int 0)))) (wB (w2 dGe (wDat 3) (wDat 2))))))) (up (wDat 3))))) (wLst wNil)))))
def W__law_is_told : WS :=
  (sSeq (sIf (upT (wOr (wNot (wB (wIsi "tuple" (wDat 2)))) (wB (w2 dNe (wn dLen (wCons (wDat 2) wNil)) (wC (.int 2))))))
    (sRet (up (wC (.bool false))))
    sNx)
  (sSeq (sIf (upT (wB (wDn (wFz (wCall 2 S__law_holds (wConsE (up (wDat 0)) (wConsE (up (wDat 1)) wNilE)))))))
    (sRet (up (wAndV (wDn (wFz (wCall 2 (S__law_alike 5) (wConsE (up (w2 dIdx (wDat 2) (wC (.int 0)))) (wConsE (up (wC (.str "yes"))) wNilE))))) (wAndV (wDn (wFz (wCall 3 S__law_is_row (wConsE (up (w2 dIdx (wDat 2) (wC (.int 1)))) (wConsE (up (w1 dNeg (wC (.int 1)))) (wConsE (up (wn dMax (wCons (wC (.int 1)) (wCons (wn dLen (wCons (wDat 0) wNil)) wNil)))) wNilE)))))) (wDn (wFz (wCall 3 S__law_leads (wConsE (up (wDat 0)) (wConsE (up (wDat 1)) (wConsE (up (w2 dIdx (wDat 2) (wC (.int 1)))) wNilE))))))))))
    sNx)
  (sSeq (sIf (upT (wOr (wNot (wB (wDn (wFz (wCall 2 (S__law_alike 5) (wConsE (up (w2 dIdx (wDat 2) (wC (.int 0)))) (wConsE (up (wC (.str "no"))) wNilE))))))) (wOr (wNot (wB (wIsi "tuple" (w2 dIdx (wDat 2) (wC (.int 1)))))) (wB (w2 dNe (wn dLen (wCons (w2 dIdx (wDat 2) (wC (.int 1))) wNil)) (wC (.int 2)))))))
    (sRet (up (wC (.bool false))))
    sNx)
  (sSeq (sAsg (up (w2 dIdx (wDat 2) (wC (.int 1)))) (gTupD 2 (gsCons (gD 4) (gsCons (gD 5) gsNil))))
  (sSeq (sSet 3 (up (wn dLen (wCons (wDn (wFz (wCall 2 S__law_columns (wConsE (up (wDat 0)) (wConsE (up (wDat 1)) wNilE))))) wNil))))
  (sRet (up (wAndV (wDn (wFz (wCall 3 S__law_is_row (wConsE (up (wDat 4)) (wConsE (up (wDat 3)) (wConsE (up (wC (.int 2))) wNilE)))))) (wAndV (wDn (wFz (wCall 3 S__law_is_row (wConsE (up (wDat 5)) (wConsE (up (wDat 3)) (wConsE (up (wC (.int 2))) wNilE)))))) (wDn (wFz (wCall 4 S__law_breaks (wConsE (up (wDat 0)) (wConsE (up (wDat 1)) (wConsE (up (wDat 4)) (wConsE (up (wDat 5)) wNilE))))))))))))))))
def W_law_t2 : WS :=
  (sIf (upT (wNot (wB (wDn (wFz (wCall 2 (S__law_alike 5) (wConsE (up (wDn (wFz (wCall 4 S_is_breaking (wConsE (up (wDat 4)) (wConsE (up (wDat 6)) (wConsE (up (wDat 11)) (wConsE (up (wDat 12)) wNilE)))))))) (wConsE (up (wDn (wFz (wCall 4 S__law_breaks (wConsE (up (wDat 4)) (wConsE (up (wDat 6)) (wConsE (up (wDat 11)) (wConsE (up (wDat 12)) wNilE)))))))) wNilE))))))))
        (sRet (up (wC (.bool false))))
        sNx)
def W_law_t1 : WS :=
  (sSeq (sIf (upT (wNot (wB (wDn (wFz (wCall 2 (S__law_alike 5) (wConsE (up (wDn (wFz (wCall 3 S_is_leading (wConsE (up (wDat 4)) (wConsE (up (wDat 6)) (wConsE (up (wDat 10)) wNilE))))))) (wConsE (up (wDn (wFz (wCall 3 S__law_leads (wConsE (up (wDat 4)) (wConsE (up (wDat 6)) (wConsE (up (wDat 10)) wNilE))))))) wNilE))))))))
        (sRet (up (wC (.bool false))))
        sNx)
      (sSeq (sSet 11 (wnE dTuple (wConsE (wFz (wLc [13] (iR1 (wConsE (up (wDat 8)) wNilE)) (gD 13) wYes (wFz (wCallM 1 1 S__law_next (wConsE (up (wC (.int 2))) wNilE))))) wNilE)))
      (sSeq (sSet 12 (wnE dTuple (wConsE (wFz (wLc [14] (iSq (up (wDat 11))) (gD 14) wYes (wIfE (wBE (w2E dGt (wFz (wCallM 1 1 S__law_next (wConsE (up (wC (.int 3))) wNilE))) (up (wC (.int 0))))) (up (wDat 14)) (up (w2 dSub (wC (.int 1)) (wDat 14)))))) wNilE)))
      (sSeq (sIf (wAndE (upT (wNot (wB (wDn (wFz (wCall 2 S__law_holds (wConsE (up (wDat 4)) (wConsE (up (wDat 6)) wNilE)))))))) (wBE (w2E dEq (wFz (wCallM 1 1 S__law_next (wConsE (up (wC (.int 2))) wNilE))) (up (wC (.int 0))))))
        (sAsg (up (w2 dIdx (wDat 7) (wC (.int 1)))) (gTupD 2 (gsCons (gD 11) (gsCons (gD 12) gsNil))))
        sNx)
      W_law_t2))))
def W_law : WS :=
  (sSeq (sSetO 1 (wDisp (((up (wC (.str "draws"))), (wFz (wCallM 0 1 S__law_draws (wConsE (up (wC (.int 900))) wNilE)))) :: (((up (wC (.str "at"))), (up (wC (.int 0)))) :: []))))
  (sSeq (sFor (iR1 (wConsE (up (wC (.int 5))) wNilE)) (gD 2)
    (sSeq (sSet 3 (wSlE (up (wTup (wCons (wC (.str "a")) (wCons (wC (.str "b")) (wCons (wC (.str "c1")) (wCons (wC (.str "d_")) (wCons (wC (.str "e")) (wCons (wC (.str "f")) wNil)))))))) wNoPE (wPtE (w2E dAdd (up (wC (.int 2))) (wFz (wCallM 1 1 S__law_next (wConsE (up (wC (.int 4))) wNilE)))))))
    (sSeq (sSet 4 (wFz (wCallM 1 2 S__law_deps (wConsE (up (wDat 3)) (wConsE (up (wC (.int 0))) wNilE)))))
    (sSeq (sSet 5 (wFz (wCallM 1 2 S__law_some (wConsE (up (wDat 3)) (wConsE (up (wC (.int 3))) wNilE)))))
    (sSeq (sIf (upT (wNot (wB (wDn (wFz (wCall 2 (S__law_alike 5) (wConsE (up (wDn (wFz (wCall 2 S_closure (wConsE (up (wDat 4)) (wConsE (up (wDat 5)) wNilE)))))) (wConsE (up (wDn (wFz (wCall 2 S__law_closure (wConsE (up (wDat 4)) (wConsE (up (wDat 5)) wNilE)))))) wNilE))))))))
      (sRet (up (wC (.bool false))))
      sNx)
    (sSeq (sSet 6 (wTupE (wConsE (wFz (wCallM 1 2 S__law_some (wConsE (up (wDat 3)) (wConsE (up (wC (.int 2))) wNilE)))) (wConsE (wFz (wCallM 1 2 S__law_some (wConsE (up (wDat 3)) (wConsE (up (wC (.int 2))) wNilE)))) wNilE))))
    (sSeq (sSet 7 (wFz (wCall 2 S_follows (wConsE (up (wDat 4)) (wConsE (up (wDat 6)) wNilE)))))
    (sSeq (sIf (upT (wNot (wB (wDn (wFz (wCall 3 S__law_is_told (wConsE (up (wDat 4)) (wConsE (up (wDat 6)) (wConsE (up (wDat 7)) wNilE)))))))))
      (sRet (up (wC (.bool false))))
      sNx)
    (sSeq (sSet 8 (up (wn dLen (wCons (wDn (wFz (wCall 2 S__law_columns (wConsE (up (wDat 4)) (wConsE (up (wDat 6)) wNilE))))) wNil))))
    (sFor (iR1 (wConsE (up (wC (.int 4))) wNilE)) (gD 9)
      (sSeq (sSet 10 (wnE dTuple (wConsE (wFz (wLc [13] (iR1 (wConsE (wFz (wCallM 1 1 S__law_next (wConsE (up (wC (.int 5))) wNilE))) wNilE)) (gD 13) wYes (w2E dSub (wFz (wCallM 1 1 S__law_next (wConsE (up (w2 dAdd (wn dLen (wCons (wDat 4) wNil)) (wC (.int 1)))) wNilE))) (wIfE (wBE (w2E dEq (wFz (wCallM 1 1 S__law_next (wConsE (up (wC (.int 9))) wNilE))) (up (wC (.int 0))))) (up (wC (.int 1))) (up (wC (.int 0))))))) wNilE)))
      (sSeq (sIf (wAndE (upT (wB (wDn (wFz (wCall 2 S__law_holds (wConsE (up (wDat 4)) (wConsE (up (wDat 6)) wNilE))))))) (wBE (w2E dEq (wFz (wCallM 1 1 S__law_next (wConsE (up (wC (.int 2))) wNilE))) (up (wC (.int 0))))))
        (sSet 10 (up (w2 dAdd (w2 dIdx (wDat 7) (wC (.int 1))) (wSl (wDat 10) wNoP (wPt (wC (.int 1)))))))
        sNx)
      W_law_t1))))))))))))
  (sRet (up (wC (.bool true))))))
end K60
set_option Elab.async false
set_option linter.all false
set_option maxRecDepth 100000
set_option maxHeartbeats 400000
namespace K60
open PySem L3
/-! ## once -/
theorem keys_put {ds : List (PD × PD)} {k v : PD} : (putD ds k v).map (·.1) = if k ∈ ds.map (·.1) then ds.map (·.1) else ds.map (·.1) ++ [k] := by
  unfold putD
  have e : (ds.any fun p => decide (p.1 = k)) = decide (k ∈ ds.map (·.1)) := by
    induction ds with
    | nil => rfl
    | cons p ds ih =>
      rw [List.any_cons, ih, List.map_cons]
      by_cases h : p.1 = k
      · simp [h]
      · have h2 : ¬ k = p.1 := fun e => h e.symm
        simp [h, h2]
  rw [e]
  by_cases h : k ∈ ds.map (·.1)
  · rw [decide_eq_true h, if_pos rfl, if_pos h, List.map_map]
    apply List.map_congr_left
    intro p _
    simp only [Function.comp]
    split <;> rfl
  · rw [decide_eq_false h, if_neg (by decide), if_neg h, List.map_append]
    rfl
theorem dedup_step {α : Type} [DecidableEq α] (xs : List α) (x : α) : dedup (xs ++ [x]) = if x ∈ dedup xs then dedup xs else dedup xs ++ [x] := by
  unfold dedup
  rw [List.foldl_append]
  rfl
theorem dedup_len {α : Type} [DecidableEq α] (xs : List α) : (dedup xs).length ≤ xs.length := by
  have : ∀ (ys acc : List α), (ys.foldl (fun acc x => if x ∈ acc then acc else acc ++ [x]) acc).length ≤ acc.length + ys.length := by
    intro ys
    induction ys with
    | nil => intro acc; simp
    | cons y ys ih =>
      intro acc
      rw [List.foldl_cons]
      refine Nat.le_trans (ih _) ?_
      split
      · simp only [List.length_cons]; omega
      · simp only [List.length_cons, List.length_append, List.length_nil]; omega
  have := this xs []
  rw [List.length_nil, Nat.zero_add] at this
  exact this
theorem mem_dedup {α : Type} [DecidableEq α] {xs : List α} {x : α} : x ∈ dedup xs ↔ x ∈ xs := by
  have : ∀ (ys acc : List α), x ∈ (ys.foldl (fun acc x => if x ∈ acc then acc else acc ++ [x]) acc) ↔ x ∈ acc ∨ x ∈ ys := by
    intro ys
    induction ys with
    | nil => intro acc; simp
    | cons y ys ih =>
      intro acc
      rw [List.foldl_cons, ih, List.mem_cons]
      split
      · rename_i h
        constructor
        · exact fun h => h.imp id .inr
        · rintro (h1 | h1 | h1)
          · exact .inl h1
          · subst h1; exact .inl h
          · exact .inr h1
      · rw [List.mem_append, List.mem_singleton]
        constructor
        · rintro ((h1 | h1) | h1)
          · exact .inl h1
          · exact .inr (.inl h1)
          · exact .inr (.inr h1)
        · rintro (h1 | h1 | h1)
          · exact .inl (.inl h1)
          · exact .inl (.inr h1)
          · exact .inr h1
  have := this xs []
  simp only [List.not_mem_nil, false_or] at this
  exact this
theorem nodup_dedup {α : Type} [DecidableEq α] (xs : List α) : (dedup xs).Nodup := by
  have : ∀ (ys acc : List α), acc.Nodup → (ys.foldl (fun acc x => if x ∈ acc then acc else acc ++ [x]) acc).Nodup := by
    intro ys
    induction ys with
    | nil => exact fun _ h => h
    | cons y ys ih =>
      intro acc h
      rw [List.foldl_cons]
      refine ih _ ?_
      split
      · exact h
      · rename_i hn
        exact List.nodup_append.mpr ⟨h, by simp, fun a m b m2 e => by
          have : b = y := by simpa using m2
          subst this; subst e; exact hn m⟩
  exact this xs [] List.nodup_nil
theorem all_atoms {xs : List PD} (h : xs.all atomD = true) {x : PD} (m : x ∈ xs) : atomD x = true := List.all_eq_true.mp h x m
theorem h_once : ∀ ds R, ds.length = 1 → S_once ds R → W_once (st0 2 ds) { nx := fun _ => R (.dat .none), rt := fun o _ => R o } := by
  rintro ds R hl ⟨xs, rfl, h1, h2, hR⟩
  simp [W_once]
  refine for_by (fun i Γ => ∃ kvs v, Γ = [some (.dat (.tuple xs)), some (.dic kvs), v] ∧ kvs.map (·.1) = dedup (xs.take i)) ⟨[], none, rfl, rfl⟩ ?_ ?_
  · rintro i d Γ K hd ⟨kvs, v, rfl, hk⟩ hK
    have hm : d ∈ xs := List.mem_of_getElem? hd
    have hat := all_atoms h1 hm
    have hlen : kvs.length ≤ i := by
      have : (kvs.map (·.1)).length ≤ i := by
        rw [hk]
        exact Nat.le_trans (dedup_len _) (by rw [List.length_take]; omega)
      simpa using this
    have hi := (List.getElem?_eq_some_iff.mp hd).1
    have hko : keyOk kvs d = true := by
      unfold keyOk
      rw [hat, Bool.true_or, Bool.true_and, List.all_eq_true]
      intro p hp
      have : p.1 ∈ dedup (xs.take i) := by rw [← hk]; exact List.mem_map_of_mem hp
      rw [all_atoms h1 (List.mem_of_mem_take (mem_dedup.mp this))]
      rfl
    simp [hat, hko]
    refine ⟨by omega, hK _ ⟨_, _, rfl, ?_⟩⟩
    rw [keys_put, hk]
    have e : xs.take (i + 1) = xs.take i ++ [d] := by
      rw [List.take_succ, hd]; rfl
    rw [e, dedup_step]
  · rintro Γ ⟨kvs, v, rfl, hk⟩
    rw [List.take_length] at hk
    simp
    rw [show kvs.map (fun x => x.fst) = dedup xs from hk]
    exact hR
/-! ## has_all -/
theorem h_has_all : ∀ ds R, ds.length = 2 → S_has_all ds R → W_has_all (st0 1 ds) { nx := fun _ => R (.dat .none), rt := fun o _ => R o } := by
  rintro ds R hl ⟨xs, known, rfl, hz, hR⟩
  simp [W_has_all]
  refine cL_q PyData.str (fun x => [some (.dat (sts xs)), some (.dat (sts known)), some (.dat (.str x))]) (fun x => !decide (x ∈ known)) PyData.str [] ?_ ?_ ?_ ?_ ?_ ?_
  · intro x m K hK; simpa using hK
  · intro x m; simp
  · intro x m K hK; simpa using hK
  · intro x m hf K hK; simpa using hK
  · simpa using hz
  · simp
    rw [show (xs.filter fun x => !decide (x ∈ known)).isEmpty = xs.all fun x => decide (x ∈ known) by
      rw [Bool.eq_iff_iff, List.isEmpty_iff, List.filter_eq_nil_iff, List.all_eq_true]
      simp]
    exact hR
/-! ## sorted closures -/
theorem ledL_cols (dps : List Dep) (cs : List Str) : Cols (ledL dps cs) := ⟨LET_nd.sublist List.filter_sublist, fun x m => (List.mem_filter.mp m).1⟩
theorem mem_ledL {dps : List Dep} {cs : List Str} (w : Wf dps) (c : Cols cs) {x : Str} : x ∈ ledL dps cs ↔ Led dps cs x := by
  unfold ledL
  rw [List.mem_filter]
  simp only [decide_eq_true_eq]
  refine ⟨fun h => h.2, fun h => ⟨?_, h⟩⟩
  cases h with
  | base m => exact c.sub x m
  | step hd _ hx => exact (w.cols _ hd).2.sub x hx
theorem led_fix {dps : List Dep} {cs found : List Str} (w : Wf dps) (hc : ∀ x ∈ cs, x ∈ found) (hl : ∀ x ∈ found, Led dps cs x) (hs : ∀ d ∈ dps, (∀ y ∈ d.1, y ∈ found) → ∀ x ∈ d.2, x ∈ found) (x : Str) : x ∈ found ↔ Led dps cs x := by
  refine ⟨hl x, fun h => ?_⟩
  induction h with
  | base m => exact hc _ m
  | step hd _ hx ih => exact hs _ hd ih _ hx
theorem sorted_led {dps : List Dep} {cs found : List Str} (w : Wf dps) (c : Cols cs) (nd : found.Nodup) (h : ∀ x, x ∈ found ↔ Led dps cs x) : (found.map PyData.str).mergeSort leD = (ledL dps cs).map .str := by
  have cf : Cols found := ⟨nd, fun x m => by
    have := (mem_ledL w c).mpr ((h x).mp m)
    exact (ledL_cols dps cs).sub x this⟩
  rw [sort_let cf]
  congr 1
  unfold ledL
  apply List.filter_congr
  intro x _
  rw [decide_eq_decide]
  exact h x
/-! ## closure -/
theorem atoms_strs {xs : List Str} : (xs.map PyData.str).all atomD = true := by
  rw [List.all_eq_true]
  intro d m
  obtain ⟨x, _, rfl⟩ := List.mem_map.mp m
  rfl
theorem dedup_nodup {α : Type} [DecidableEq α] {xs : List α} (h : xs.Nodup) : dedup xs = xs := by
  have : ∀ (ys acc : List α), (acc ++ ys).Nodup → (ys.foldl (fun acc x => if x ∈ acc then acc else acc ++ [x]) acc) = acc ++ ys := by
    intro ys
    induction ys with
    | nil => intro acc _; simp
    | cons y ys ih =>
      intro acc h
      rw [List.foldl_cons]
      have hn : y ∉ acc := fun m => (List.nodup_append.mp h).2.2 y m y (by simp) rfl
      rw [if_neg hn, ih (acc ++ [y]) (by simpa using h), List.append_assoc]
      rfl
  have := this xs [] (by simpa using h)
  rw [List.nil_append] at this
  exact this
theorem dedup_map {xs : List Str} : dedup (xs.map PyData.str) = (dedup xs).map .str := by
  have : ∀ (ys acc : List Str), ((ys.map PyData.str).foldl (fun acc x => if x ∈ acc then acc else acc ++ [x]) (acc.map .str)) = (ys.foldl (fun acc x => if x ∈ acc then acc else acc ++ [x]) acc).map .str := by
    intro ys
    induction ys with
    | nil => intro acc; rfl
    | cons y ys ih =>
      intro acc
      rw [List.map_cons, List.foldl_cons, List.foldl_cons]
      have e : (PyData.str y ∈ acc.map PyData.str) ↔ y ∈ acc := by
        rw [List.mem_map]
        constructor
        · rintro ⟨a, ha, e⟩; cases e; exact ha
        · exact fun h => ⟨y, h, rfl⟩
      by_cases h : y ∈ acc
      · rw [if_pos (e.mpr h), if_pos h]; exact ih acc
      · rw [if_neg (fun z => h (e.mp z)), if_neg h]
        have := ih (acc ++ [y])
        rw [List.map_append] at this
        exact this
  exact this xs []
theorem once_strs {xs : List Str} {R : O → Prop} (h : xs.length ≤ sizeLine) (hR : R (.dat (sts (dedup xs)))) : S_once [sts xs] R :=
  ⟨xs.map .str, rfl, atoms_strs, by simpa using h, by rw [dedup_map]; exact hR⟩
theorem take_snoc {α : Type} {xs : List α} {i : Nat} {x : α} (h : xs[i]? = some x) : xs.take (i + 1) = xs.take i ++ [x] := by
  rw [List.take_succ, h]; rfl
theorem h_closure : ∀ ds R, ds.length = 2 → S_closure ds R → W_closure (st0 6 ds) { nx := fun _ => R (.dat .none), rt := fun o _ => R o } := by
  rintro ds R hl ⟨dps, cs, rfl, w, c, hR⟩
  have s1 := c.len
  simp [W_closure]
  refine once_strs (by rw [sz]; omega) ?_
  simp
  rw [dedup_nodup c.nd]
  let μ : Gm → Nat := fun Γ => match Γ with
    | [_, _, some (.dat (.tuple f)), some (.dat (.bool g)), _, _, _, _] => 2 * (6 - f.length) + g.toNat
    | _ => 0
  have bound : ∀ found : List Str, found.Nodup → (∀ x ∈ found, Led dps cs x) → found.length ≤ 6 := fun found nd h => nodup_len nd (ys := LET) fun x m => (ledL_cols dps cs).sub x ((mem_ledL w c).mpr (h x m))
  refine wh_by (fun Γ => ∃ found g v4 v5 v6, Γ = [some (.dat (depsD dps)), some (.dat (sts cs)), some (.dat (sts found)), some (.dat (.bool g)), v4, v5, v6, none] ∧ found.Nodup ∧ (∀ x ∈ cs, x ∈ found) ∧ (∀ x ∈ found, Led dps cs x) ∧
    (g = false → ∀ d ∈ dps, (∀ y ∈ d.1, y ∈ found) → ∀ x ∈ d.2, x ∈ found)) μ ⟨cs, true, none, none, none, rfl, c.nd, fun _ m => m, fun _ m => .base m, nofun⟩ ?_
  rintro Γ K ⟨found, g, v4, v5, v6, rfl, nd, h1, h2, h3⟩ hK
  simp
  cases g with
  | false =>
    simp
    have e := led_fix w h1 h2 (h3 rfl)
    refine ⟨sortOk_strs, ?_⟩
    rw [sorted_led w c nd e]
    exact hR
  | true =>
    simp
    refine for_ty depD (fun i Γ => ∃ fd g v4 v5 v6, Γ = [some (.dat (depsD dps)), some (.dat (sts cs)), some (.dat (sts fd)), some (.dat (.bool g)), v4, v5, v6, none] ∧ fd.Nodup ∧ (∀ x ∈ cs, x ∈ fd) ∧ (∀ x ∈ fd, Led dps cs x) ∧
      (g = true → found.length < fd.length) ∧ (g = false → fd = found ∧ ∀ d ∈ dps.take i, (∀ y ∈ d.1, y ∈ fd) → ∀ x ∈ d.2, x ∈ fd)) ⟨found, false, v4, v5, v6, rfl, nd, h1, h2, nofun, fun _ => ⟨rfl, by simp⟩⟩ ?_ ?_
    · rintro i d Γ K ed ⟨fd, g, v4, v5, v6, rfl, nd, h1, h2, h4, h5⟩ hK
      have hd : d ∈ dps := List.mem_of_getElem? ed
      obtain ⟨cl, cr⟩ := w.cols d hd
      have l1 := cl.len
      have l2 := cr.len
      have lf := bound fd nd h2
      simp
      refine cL_q PyData.str (fun x => [some (.dat (depsD dps)), some (.dat (sts cs)), some (.dat (sts fd)), some (.dat (.bool g)), some (.dat (sts d.1)), some (.dat (sts d.2)), v6, some (.dat (.str x))]) (fun x => !decide (x ∈ fd)) PyData.str [] (by intro x m K hK; simpa using hK) (by intro x m; simp) (by intro x m K hK; simpa using hK) (by intro x m hf K hK; simpa using hK) (by simp [sz]; omega) ?_
      have hmem : ∀ x, x ∈ (d.2.filter fun x => !decide (x ∈ fd)) ↔ x ∈ d.2 ∧ x ∉ fd := fun x => by rw [List.mem_filter]; simp
      have hmn : (d.2.filter fun x => !decide (x ∈ fd)).Nodup := cr.nd.sublist List.filter_sublist
      have hml : (d.2.filter fun x => !decide (x ∈ fd)).length ≤ d.2.length := List.length_filter_le _ _
      rw [List.nil_append]
      generalize (d.2.filter fun x => !decide (x ∈ fd)) = more at hmem hmn hml ⊢
      have none' : (more = [] ∨ ¬ ∀ y ∈ d.1, y ∈ fd) → K [some (.dat (depsD dps)), some (.dat (sts cs)), some (.dat (sts fd)), some (.dat (.bool g)), some (.dat (sts d.1)), some (.dat (sts d.2)), some (.dat (.list (more.map .str))), none] := fun hno => by
        refine hK _ ⟨fd, g, _, _, _, rfl, nd, h1, h2, h4, fun hg => ⟨(h5 hg).1, fun d' md => ?_⟩⟩
        rw [take_snoc ed, List.mem_append, List.mem_singleton] at md
        rcases md with md | rfl
        · exact (h5 hg).2 d' md
        · intro hy x mx
          rcases hno with h | h
          · subst h
            by_cases hx : x ∈ fd
            · exact hx
            · exact absurd ((hmem x).mpr ⟨mx, hx⟩) (by simp)
          · exact absurd hy h
      cases hne : more.isEmpty with
      | true =>
        have hn := none' (.inl (List.isEmpty_iff.mp hne))
        simp [hne]
        exact hn
      | false =>
        have hlm : 0 < more.length := by
          cases more with
          | nil => cases hne
          | cons _ _ => simp
        simp [hne]
        refine cL_q PyData.str (fun x => [some (.dat (depsD dps)), some (.dat (sts cs)), some (.dat (sts fd)), some (.dat (.bool g)), some (.dat (sts d.1)), some (.dat (sts d.2)), some (.dat (.list (more.map .str))), some (.dat (.str x))]) (fun x => !decide (x ∈ fd)) PyData.str [] (by intro x m K hK; simpa using hK) (by intro x m; simp) (by intro x m K hK; simpa using hK) (by intro x m hf K hK; simpa using hK) (by simp [sz]; omega) ?_
        rw [List.nil_append]
        have hmem2 : (d.1.filter fun x => !decide (x ∈ fd)) = [] ↔ ∀ y ∈ d.1, y ∈ fd := by rw [List.filter_eq_nil_iff]; simp
        generalize (d.1.filter fun x => !decide (x ∈ fd)) = lack at hmem2 ⊢
        cases lack with
        | cons a as =>
          rw [eq_strs0]
          simp
          exact none' (.inr fun h => absurd (hmem2.mpr h) (by simp))
        | nil =>
          have hl := hmem2.mp rfl
          rw [eq_strs0]
          simp
          refine ⟨by rw [sz]; omega, hK _ ⟨fd ++ more, true, _, _, _, rfl, ?_, ?_, ?_, fun _ => ?_, nofun⟩⟩
          · exact List.nodup_append.mpr ⟨nd, hmn, fun a m b m2 e => by subst e; exact ((hmem a).mp m2).2 m⟩
          · exact fun x m => List.mem_append_left _ (h1 x m)
          · intro x m
            rcases List.mem_append.mp m with m | m
            · exact h2 x m
            · exact .step hd (fun y my => h2 y (hl y my)) ((hmem x).mp m).1
          · rw [List.length_append]
            cases g with
            | true => have := h4 rfl; omega
            | false => rw [(h5 rfl).1]; omega
    · rintro Γ ⟨fd, g, v4, v5, v6, rfl, nd', h1', h2', h4, h5⟩
      refine hK _ ⟨fd, g, v4, v5, v6, rfl, nd', h1', h2', fun hg => ?_⟩ ?_
      · have := (h5 hg).2
        rw [List.take_length] at this
        exact this
      · show 2 * (6 - (fd.map PyData.str).length) + g.toNat < 2 * (6 - (found.map PyData.str).length) + true.toNat
        have b1 := bound found nd h2
        have b2 := bound fd nd' h2'
        rw [List.length_map, List.length_map]
        cases g with
        | true => have := h4 rfl; simp; omega
        | false => have := (h5 rfl).1; subst this; simp
end K60
set_option Elab.async false
set_option linter.all false
set_option maxRecDepth 100000
set_option maxHeartbeats 400000
namespace K60
open PySem L3
theorem atI_nat {α : Type} {xs : List α} {k : Nat} : L2.atI xs (k : Int) = xs[k]? := by
  unfold L2.atI L2.ixN
  rw [if_pos (Int.natCast_nonneg k)]
  by_cases h : (k : Int) < xs.length
  · rw [if_pos h]; simp
  · rw [if_neg h]
    have : xs.length ≤ k := by omega
    rw [List.getElem?_eq_none this]
    rfl
@[simp] theorem atI_0 {α : Type} {x : α} {xs : List α} : L2.atI (x :: xs) 0 = some x := by
  have := @atI_nat _ (x :: xs) 0
  simpa using this
@[simp] theorem atI_1 {α : Type} {x y : α} {xs : List α} : L2.atI (x :: y :: xs) 1 = some y := by
  have := @atI_nat _ (x :: y :: xs) 1
  simpa using this
@[simp] theorem walk_nums {ns : List Int} : walkD (nums ns) = some (ns.map .int) := rfl
@[simp] theorem items_nums {ns : List Int} : itemsD (nums ns) = some (ns.map .int) := rfl
@[simp high] theorem len_nums {ns : List Int} {Q : PD → Prop} : dLen [nums ns] Q = Q (.int ns.length) := by simp [nums]
@[simp] theorem tuple_nums {ns : List Int} : PyData.tuple (ns.map .int) = nums ns := rfl
@[simp high] theorem add_nums {a b : List Int} {Q : PD → Prop} : dAdd (nums a) (nums b) Q = (a.length + b.length ≤ sizeLine ∧ Q (nums (a ++ b))) := by
  show ((a.map PyData.int).length + (b.map PyData.int).length ≤ sizeLine ∧ Q (.tuple (a.map .int ++ b.map .int))) = _
  rw [List.length_map, List.length_map, ← List.map_append]
  rfl
@[simp high] theorem add_nums1 {a : List Int} {k : Int} {Q : PD → Prop} : dAdd (nums a) (.tuple [.int k]) Q = (a.length + 1 ≤ sizeLine ∧ Q (nums (a ++ [k]))) := by
  exact @add_nums a [k] Q
theorem any_ints {ns : List Int} {x : Int} : anyD (ns.map .int) (.int x) = decide (x ∈ ns) := by
  unfold anyD
  rw [List.any_map]
  induction ns with
  | nil => rfl
  | cons y ys ih =>
    rw [List.any_cons, ih]
    have e : PyData.eqv (.int y) (.int x) = decide (y = x) := by simp only [PyData.eqv]; exact Bool.beq_eq_decide_eq y x
    simp only [Function.comp, e]
    by_cases h : y = x
    · simp [h]
    · have h2 : ¬ x = y := fun e => h e.symm
      simp [h, h2]
theorem pl_int {x : Int} : plD (.int x) := by constructor <;> simp [PyData.plain, PyData.depth]
@[simp high] theorem inn_nums {b : Bool} {x : Int} {ns : List Int} {Q : PD → Prop} : dInn b (.int x) (nums ns) Q = Q (.bool (if b then !decide (x ∈ ns) else decide (x ∈ ns))) := by
  unfold nums
  rw [inn_t, any_ints]
  exact propext ⟨fun q => q.2, fun q => ⟨⟨pl_int, plain_ints, by have := @depth_ints ns; omega⟩, q⟩⟩
@[simp high] theorem inn_numsl {b : Bool} {x : Int} {ns : List Int} {Q : PD → Prop} : dInn b (.int x) (.list (ns.map .int)) Q = Q (.bool (if b then !decide (x ∈ ns) else decide (x ∈ ns))) := by
  rw [inn_l, any_ints]
  exact propext ⟨fun q => q.2, fun q => ⟨⟨pl_int, plain_ints, by have := @depth_ints ns; omega⟩, q⟩⟩
theorem h_columns_of : ∀ ds R, ds.length = 1 → S_columns_of ds R → W_columns_of (st0 2 ds) { nx := fun _ => R (.dat .none), rt := fun o _ => R o } := by
  rintro ds R hl ⟨dps, rfl, hz, w, hR⟩
  simp [W_columns_of]
  refine cL_q depD (fun d => [some (.dat (depsD dps)), some (.dat (sts d.1)), some (.dat (sts d.2))]) (fun _ => true) (fun d => sts (d.1 ++ d.2)) [] (by intro x m K hK; simpa using hK) (by intro x m; simp) (by intro x m K hK; simpa using hK) ?_ (by simp [sz]; omega) ?_
  · intro d m _ K hK
    have h1 := (w d m).1.len
    have h2 := (w d m).2.len
    simp
    exact ⟨by rw [sz]; omega, hK⟩
  have hflat : ∀ l : List Dep, (l.map fun d => (d.1 ++ d.2).map PyData.str).flatten = ((l.map fun d => d.1 ++ d.2).flatten).map .str := fun l => by
    induction l with
    | nil => rfl
    | cons d l ih => rw [List.map_cons, List.flatten_cons, ih, List.map_cons, List.flatten_cons, List.map_append (l₁ := d.1 ++ d.2)]
  have hlen : (dps.map fun d => d.1 ++ d.2).flatten.length ≤ 12 * dps.length := by
    clear hz hR hl
    induction dps with
    | nil => simp
    | cons d l ih =>
      have h1 := (w d (by simp)).1.len
      have h2 := (w d (by simp)).2.len
      have := ih (fun x m => w x (List.mem_cons_of_mem _ m))
      rw [List.map_cons, List.flatten_cons, List.length_append, List.length_append, List.length_cons]
      omega
  simp
  refine ⟨dps.map fun d => (d.1 ++ d.2).map .str, by rw [List.filter_eq_self.mpr (fun _ _ => rfl)]; simp [sts, Function.comp_def], ?_, ?_⟩
  · rw [hflat]; simp only [List.length_map, List.length_nil, sz]; omega
  · rw [hflat, List.nil_append]
    refine once_strs (by rw [sz]; omega) ?_
    have mem : ∀ x, x ∈ (dps.map fun d => d.1 ++ d.2).flatten ↔ ∃ d ∈ dps, x ∈ d.1 ∨ x ∈ d.2 := fun x => by
      rw [List.mem_flatten]
      constructor
      · rintro ⟨l, hl, hx⟩
        obtain ⟨d, md, rfl⟩ := List.mem_map.mp hl
        exact ⟨d, md, List.mem_append.mp hx⟩
      · rintro ⟨d, md, hx⟩
        exact ⟨_, List.mem_map.mpr ⟨d, md, rfl⟩, List.mem_append.mpr hx⟩
    have cf : Cols (dedup (dps.map fun d => d.1 ++ d.2).flatten) := ⟨nodup_dedup _, fun x m => by
      obtain ⟨d, md, h⟩ := (mem x).mp (mem_dedup.mp m)
      rcases h with h | h
      · exact (w d md).1.sub x h
      · exact (w d md).2.sub x h⟩
    simp
    refine ⟨sortOk_strs, ?_⟩
    rw [sort_let cf]
    have : (LET.filter fun x => decide (x ∈ dedup (dps.map fun d => d.1 ++ d.2).flatten)) = allC dps := by
      unfold allC
      apply List.filter_congr
      intro x _
      rw [Bool.eq_iff_iff, decide_eq_true_iff, mem_dedup, mem]
      simp
    rw [this]
    exact hR
/-! ## steps -/
theorem runS_snoc {dps : List Dep} {st : List Int} {h had : List Str} {k : Nat} {d : Dep} (e : runS dps h st = some had) (hd : dps[k]? = some d) (hy : ∀ y ∈ d.1, y ∈ had) : runS dps h (st ++ [(k : Int)]) = some (had ++ d.2) := by
  induction st generalizing h with
  | nil =>
    simp only [runS, Option.some.injEq] at e
    subst e
    have hk := (List.getElem?_eq_some_iff.mp hd).1
    simp only [List.nil_append, runS]
    rw [if_pos ⟨Int.natCast_nonneg k, by omega⟩, Int.toNat_natCast, hd]
    simp only
    rw [if_pos (by rw [List.all_eq_true]; intro y m; simpa using hy y m)]
  | cons j st ih =>
    simp only [List.cons_append, runS] at e ⊢
    split at e
    · rename_i hj
      rw [if_pos hj]
      split at e
      · rename_i d' hd'
        try rw [hd']
        try simp only
        split at e
        · rename_i hq
          rw [if_pos hq]
          exact ih e
        · cases e
      · cases e
    · cases e
theorem runS_inv {dps : List Dep} {cs : List Str} {st : List Int} {h had : List Str} (e : runS dps h st = some had) (hl : ∀ x ∈ h, Led dps cs x) : (∀ x ∈ h, x ∈ had) ∧ (∀ x ∈ had, Led dps cs x) ∧ ∀ k ∈ st, 0 ≤ k ∧ k < dps.length ∧ ∀ d, dps[k.toNat]? = some d → ∀ x ∈ d.2, x ∈ had := by
  induction st generalizing h with
  | nil =>
    simp only [runS, Option.some.injEq] at e
    subst e
    exact ⟨fun _ m => m, hl, fun _ m => nomatch m⟩
  | cons j st ih =>
    simp only [runS] at e
    split at e
    · rename_i hj
      split at e
      · rename_i d' hd'
        split at e
        · rename_i hq
          rw [List.all_eq_true] at hq
          obtain ⟨h1, h2, h3⟩ := ih e fun x m => by
            rcases List.mem_append.mp m with m | m
            · exact hl x m
            · exact .step (List.mem_of_getElem? hd') (fun y my => hl y (by simpa using hq y my)) m
          refine ⟨fun x m => h1 x (List.mem_append_left _ m), h2, fun k m => ?_⟩
          rcases List.mem_cons.mp m with rfl | m
          · refine ⟨hj.1, hj.2, fun d hd x mx => ?_⟩
            rw [hd'] at hd; cases hd
            exact h1 x (List.mem_append_right _ mx)
          · exact h3 k m
        · cases e
      · cases e
    · cases e
theorem has_all_call {xs known : List Str} {R : O → Prop} (h : Cols xs) (hR : R (.dat (.bool (xs.all (· ∈ known))))) : S_has_all [sts xs, sts known] R := ⟨xs, known, rfl, by have := h.len; rw [sz]; omega, hR⟩
theorem nums_bound {n : Nat} {st : List Int} (nd : st.Nodup) (h : ∀ k ∈ st, 0 ≤ k ∧ k < n) : st.length ≤ n := by
  have := nodup_len (xs := st) (ys := (List.range n).map fun k : Nat => (k : Int)) nd fun k m => by
    obtain ⟨h1, h2⟩ := h k m
    exact List.mem_map.mpr ⟨k.toNat, by simp; omega, by omega⟩
  simpa using this
theorem h_steps_to : ∀ ds R, ds.length = 3 → S_steps_to ds R → W_steps_to (st0 4 ds) { nx := fun _ => R (.dat .none), rt := fun o _ => R o } := by
  rintro ds R hl ⟨dps, l, r, rfl, w, cl, cr, hN, hS⟩
  have s1 := cl.len
  have s2 := w.len
  simp [W_steps_to]
  refine once_strs (by rw [sz]; omega) ?_
  simp
  rw [dedup_nodup cl.nd]
  let μ : Gm → Nat := fun Γ => match Γ with
    | [_, _, _, _, some (.dat (.tuple f)), _, _] => 6 - f.length
    | _ => 0
  refine wh_by (fun Γ => ∃ kn st had v5 v6, Γ = [some (.dat (depsD dps)), some (.dat (sts l)), some (.dat (sts r)), some (.dat (sts kn)), some (.dat (nums st)), v5, v6] ∧ Cols kn ∧ st.Nodup ∧ runS dps l st = some had ∧ (∀ x, x ∈ kn ↔ x ∈ had)) μ ⟨l, [], l, none, none, rfl, cl, List.nodup_nil, rfl, fun _ => Iff.rfl⟩ ?_
  rintro Γ K ⟨kn, st, had, v5, v6, rfl, ck, nd, hrun, hkh⟩ hK
  obtain ⟨i1, i2, i3⟩ := runS_inv (cs := l) hrun fun x m => .base m
  have hst : st.length ≤ dps.length := nums_bound nd fun k m => ⟨(i3 k m).1, (i3 k m).2.1⟩
  have lk := ck.len
  simp
  refine has_all_call cr ?_
  have hrk : (r.all fun x => decide (x ∈ kn)) = (r.all fun x => decide (x ∈ had)) := by
    congr 1; funext x; rw [decide_eq_decide]; exact hkh x
  cases hall : (r.all fun x => decide (x ∈ kn)) with
  | true =>
    simp
    refine hS st ?_ (by omega)
    unfold leadsB
    rw [hrun]
    simp only [Bool.and_eq_true, decide_eq_true_iff]
    exact ⟨nd, by rw [← hrk]; exact hall⟩
  | false =>
    simp
    refine ⟨by omega, ?_⟩
    have hnot : ¬ ∀ x ∈ r, x ∈ kn := fun h => by
      rw [List.all_eq_false] at hall
      obtain ⟨x, mx, hx⟩ := hall
      exact hx (by simpa using h x mx)
    let good : Int → Prop := fun k => 0 ≤ k ∧ k < dps.length ∧ k ∉ st ∧ ∀ d, dps[k.toNat]? = some d → ∀ y ∈ d.1, y ∈ kn
    refine for_ty (fun k : Nat => PyData.int (0 + k)) (xs := List.range dps.length) (fun i Γ => ∃ able v6, Γ = [some (.dat (depsD dps)), some (.dat (sts l)), some (.dat (sts r)), some (.dat (sts kn)), some (.dat (nums st)), some (.lst (able.map .int)), v6] ∧ able.length ≤ i ∧ (∀ k ∈ able, good k) ∧
      (able = [] → ∀ k : Nat, k < i → ¬ good k)) ⟨[], v6, rfl, Nat.le_refl _, (fun _ m => nomatch m), fun _ k h => absurd h (Nat.not_lt_zero _)⟩ ?_ ?_
    · rintro i x Γ K ex ⟨able, v6, rfl, hle, hg, hn⟩ hK
      have hi : i < dps.length := by
        have := (List.getElem?_eq_some_iff.mp ex).1
        simpa using this
      obtain rfl : x = i := by simpa [hi] using ex.symm
      obtain ⟨d, hd⟩ : ∃ d, dps[x]? = some d := ⟨_, List.getElem?_eq_getElem hi⟩
      obtain ⟨cdl, cdr⟩ := w.cols d (List.mem_of_getElem? hd)
      have next0 : ¬ good x → K [some (.dat (depsD dps)), some (.dat (sts l)), some (.dat (sts r)), some (.dat (sts kn)), some (.dat (nums st)), some (.lst (able.map .int)), some (.dat (.int x))] := fun hng => hK _ ⟨able, _, rfl, by omega, hg, fun he k hk => by
        rcases Nat.lt_succ_iff_lt_or_eq.mp hk with h | h
        · exact hn he k h
        · subst h; exact hng⟩
      simp [atI_nat, hd]
      refine ⟨fun hin => ?_, fun hin => next0 fun h => h.2.2.1 hin⟩
      · refine has_all_call cdl ?_
        cases hq : (d.1.all fun y => decide (y ∈ kn)) with
        | true =>
          simp
          refine ⟨by rw [sz]; omega, hK _ ⟨able ++ [(x : Int)], _, by rw [List.map_append]; rfl, by rw [List.length_append]; simpa using hle, ?_, fun h => by simp at h⟩⟩
          intro k m
          rcases List.mem_append.mp m with m | m
          · exact hg k m
          · obtain rfl : k = (x : Int) := by simpa using m
            refine ⟨Int.natCast_nonneg x, by omega, hin, fun d' hd' y my => ?_⟩
            rw [Int.toNat_natCast, hd] at hd'
            cases hd'
            exact by simpa using List.all_eq_true.mp hq y my
        | false =>
          simp
          refine next0 fun h => ?_
          rw [List.all_eq_false] at hq
          obtain ⟨y, my, hy⟩ := hq
          exact hy (by simpa using h.2.2.2 d (by rw [Int.toNat_natCast]; exact hd) y my)
    · rintro Γ ⟨able, v6, rfl, hle, hg, hn⟩
      rw [List.length_range] at hle hn
      simp
      cases able with
      | nil =>
        simp only [List.isEmpty_nil, if_true]
        refine hN fun h => hnot fun x mx => ?_
        have fix := led_fix (found := kn) w (cs := l) (fun x m => (hkh x).mpr (i1 x m)) (fun x m => i2 x ((hkh x).mp m)) (fun d md hy x mx => ?_) x
        · exact fix.mpr (h x mx)
        · obtain ⟨k, hk⟩ := List.getElem?_of_mem md
          have hkl := (List.getElem?_eq_some_iff.mp hk).1
          by_cases hs : (k : Int) ∈ st
          · exact (hkh x).mpr ((i3 k hs).2.2 d (by rw [Int.toNat_natCast]; exact hk) x mx)
          · refine absurd ⟨Int.natCast_nonneg k, by omega, hs, fun d' hd' y my => ?_⟩ (hn rfl k hkl)
            rw [Int.toNat_natCast, hk] at hd'
            cases hd'
            exact hy y my
      | cons k0 ks =>
        simp
        obtain ⟨g1, g2, g3, g4⟩ := hg k0 (by simp)
        obtain ⟨k, rfl⟩ : ∃ k : Nat, k0 = k := ⟨k0.toNat, by omega⟩
        obtain ⟨d, hd⟩ : ∃ d, dps[k]? = some d := ⟨_, List.getElem?_eq_getElem (by omega)⟩
        obtain ⟨cdl, cdr⟩ := w.cols d (List.mem_of_getElem? hd)
        have ldr := cdr.len
        refine ⟨by decide, by rw [sz]; omega, ?_⟩
        simp [atI_nat, hd]
        refine ⟨by rw [sz]; omega, ?_⟩
        refine once_strs (by rw [List.length_append, sz]; omega) ?_
        simp
        have hmem : ∀ x, x ∈ dedup (kn ++ d.2) ↔ x ∈ had ++ d.2 := fun x => by rw [mem_dedup, List.mem_append, List.mem_append, hkh x]
        refine hK _ ⟨dedup (kn ++ d.2), st ++ [(k : Int)], had ++ d.2, _, _, rfl, ⟨nodup_dedup _, fun x m => ?_⟩, ?_, ?_, hmem⟩ ?_
        · rcases List.mem_append.mp (mem_dedup.mp m) with m | m
          · exact ck.sub x m
          · exact cdr.sub x m
        · exact List.nodup_append.mpr ⟨nd, by simp, fun a m b m2 e => by
            obtain rfl : b = (k : Int) := by simpa using m2
            subst e; exact g3 m⟩
        · refine runS_snoc hrun hd fun y my => (hkh y).mp (g4 d (by rw [Int.toNat_natCast]; exact hd) y my)
        · show 6 - ((st ++ [(k : Int)]).map PyData.int).length < 6 - (st.map PyData.int).length
          have : (st ++ [(k : Int)]).length ≤ dps.length := nums_bound (List.nodup_append.mpr ⟨nd, by simp, fun a m b m2 e => by
            obtain rfl : b = (k : Int) := by simpa using m2
            subst e; exact g3 m⟩) fun j m => by
              rcases List.mem_append.mp m with m | m
              · exact ⟨(i3 j m).1, (i3 j m).2.1⟩
              · obtain rfl : j = (k : Int) := by simpa using m
                exact ⟨g1, g2⟩
          rw [List.length_map, List.length_map]
          rw [List.length_append, List.length_singleton] at this ⊢
          omega
end K60
set_option Elab.async false
set_option linter.all false
set_option maxRecDepth 100000
set_option maxHeartbeats 400000
namespace K60
open PySem L3
@[simp] theorem szz : sizeLine = 16777216 := rfl
@[simp] theorem atI_natS {α : Type} {xs : List α} {k : Nat} : L2.atI xs (k : Int) = xs[k]? := atI_nat
@[simp] theorem ofO_map {α β : Type} {o : Option α} {f : α → β} {Q : β → Prop} : ofO (o.map f) Q = ofO o fun x => Q (f x) := by cases o <;> rfl
section
variable {xs : List Str} {ns : List Int} {k : Nat} {Q : PD → Prop}
@[simp high] theorem idx_sts : dIdx (sts xs) (.int (k : Int)) Q = ofO xs[k]? fun x => Q (.str x) := by
  show ofO (L2.atI (xs.map PyData.str) k) Q = _
  rw [atI_nat, List.getElem?_map]
  cases xs[k]? <;> rfl
@[simp high] theorem idx_stsl : dIdx (.list (xs.map .str)) (.int (k : Int)) Q = ofO xs[k]? fun x => Q (.str x) := by
  show ofO (L2.atI (xs.map PyData.str) k) Q = _
  rw [atI_nat, List.getElem?_map]
  cases xs[k]? <;> rfl
@[simp high] theorem idx_nums : dIdx (nums ns) (.int (k : Int)) Q = ofO ns[k]? fun x => Q (.int x) := by
  show ofO (L2.atI (ns.map PyData.int) k) Q = _
  rw [atI_nat, List.getElem?_map]
  cases ns[k]? <;> rfl
@[simp] theorem eq_nats0 {l : List Nat} : dEq (.list (l.map fun k : Nat => PyData.int (k : Int))) (.list []) Q = Q (.bool l.isEmpty) := by
  have := @eq_ints0 (l.map fun k : Nat => (k : Int)) Q
  rw [List.map_map] at this
  rw [show (l.map fun k : Nat => PyData.int (k : Int)) = l.map (PyData.int ∘ fun k : Nat => (k : Int)) from rfl, this]
  cases l <;> rfl
@[simp] theorem isT_nums : (nums ns).isTuple = true := rfl
@[simp] theorem isT_sts : (sts xs).isTuple = true := rfl
@[simp] theorem isN_nums : isNone (nums ns) = false := rfl
end
theorem filter_emp {α : Type} {l : List α} {f : α → Bool} : (l.filter f).isEmpty = l.all fun x => !f x := by
  rw [Bool.eq_iff_iff, List.isEmpty_iff, List.filter_eq_nil_iff, List.all_eq_true]
  simp
theorem agree_eq {cols own : List Str} {one other : List Int} : ((List.range cols.length).filter fun k => decide (cols[k]?.getD ("" : Str) ∈ own) && !decide (one[k]? = other[k]?)).isEmpty = agreeB cols one other own := by
  rw [filter_emp]
  unfold agreeB
  congr 1
  funext k
  rw [Bool.not_and, Bool.not_not]
theorem h_agrees : ∀ ds R, ds.length = 4 → S_agrees ds R → W_agrees (st0 1 ds) { nx := fun _ => R (.dat .none), rt := fun o _ => R o } := by
  rintro ds R hl ⟨cols, own, one, other, rfl, h1, h2, h3, hR⟩
  simp [W_agrees]
  refine ⟨by omega, ?_⟩
  refine cL_q (fun k : Nat => PyData.int (0 + k)) (xs := List.range cols.length) (fun k => [some (.dat (sts cols)), some (.dat (nums one)), some (.dat (nums other)), some (.dat (sts own)), some (.dat (.int (0 + k)))]) (fun k => decide (cols[k]?.getD ("" : Str) ∈ own) && !decide (one[k]? = other[k]?)) (fun k => PyData.int k) [] (by intro x m K hK; simpa using hK) (by intro x m; simp) ?_ (by intro x m hf K hK; simpa using hK) (by simp; omega) ?_
  · intro k m K hK
    have hk : k < cols.length := by simpa using m
    have e1 : cols[k]? = some cols[k] := List.getElem?_eq_getElem hk
    have e2 : one[k]? = some one[k] := List.getElem?_eq_getElem (by omega)
    have e3 : other[k]? = some other[k] := List.getElem?_eq_getElem (by omega)
    simp [e1, e2, e3] at hK ⊢
    refine ⟨fun h => ?_, fun h => ?_⟩
    · simpa [h] using hK
    · simpa [h] using hK
  · rw [List.nil_append, eq_nats0, agree_eq]
    exact hR
theorem h__law_agree : ∀ ds R, ds.length = 4 → S__law_agree ds R → W__law_agree (st0 1 ds) { nx := fun _ => R (.dat .none), rt := fun o _ => R o } := by
  rintro ds R hl ⟨cols, own, one, other, rfl, h1, h2, h3, hR⟩
  simp [W__law_agree]
  refine ⟨by omega, ?_⟩
  refine cL_q (fun k : Nat => PyData.int (0 + k)) (xs := List.range cols.length) (fun k => [some (.dat (.list (cols.map .str))), some (.dat (nums one)), some (.dat (nums other)), some (.dat (sts own)), some (.dat (.int (0 + k)))]) (fun k => decide (cols[k]?.getD ("" : Str) ∈ own) && !decide (one[k]? = other[k]?)) (fun k => PyData.int k) [] (by intro x m K hK; simpa using hK) (by intro x m; simp) ?_ (by intro x m hf K hK; simpa using hK) (by simp; omega) ?_
  · intro k m K hK
    have hk : k < cols.length := by simpa using m
    have e1 : cols[k]? = some cols[k] := List.getElem?_eq_getElem hk
    have e2 : one[k]? = some one[k] := List.getElem?_eq_getElem (by omega)
    have e3 : other[k]? = some other[k] := List.getElem?_eq_getElem (by omega)
    simp [e1, e2, e3] at hK ⊢
    refine ⟨fun h => ?_, fun h => ?_⟩
    · simpa [h] using hK
    · simpa [h] using hK
  · rw [List.nil_append, eq_nats0, agree_eq]
    exact hR
theorem keep_step {cols : List Str} {dps : List Dep} {one other : List Int} : keepB cols dps one other = true ↔ ∀ d ∈ dps, agreeB cols one other d.1 = true → agreeB cols one other d.2 = true := by
  unfold keepB
  rw [List.all_eq_true]
  refine forall_congr' fun d => forall_congr' fun _ => ?_
  cases agreeB cols one other d.1 <;> simp
theorem h_keeps : ∀ ds R, ds.length = 4 → S_keeps ds R → W_keeps (st0 2 ds) { nx := fun _ => R (.dat .none), rt := fun o _ => R o } := by
  rintro ds R hl ⟨cols, dps, one, other, rfl, h1, h2, h3, hR⟩
  simp [W_keeps]
  refine for_ty depD (fun i Γ => ∃ v4 v5, Γ = [some (.dat (sts cols)), some (.dat (depsD dps)), some (.dat (nums one)), some (.dat (nums other)), v4, v5] ∧ ∀ d ∈ dps.take i, agreeB cols one other d.1 = true → agreeB cols one other d.2 = true) ⟨none, none, rfl, by simp⟩ ?_ ?_
  · rintro i d Γ K ed ⟨v4, v5, rfl, hi⟩ hK
    have next0 : (agreeB cols one other d.1 = true → agreeB cols one other d.2 = true) → K [some (.dat (sts cols)), some (.dat (depsD dps)), some (.dat (nums one)), some (.dat (nums other)), some (.dat (sts d.1)), some (.dat (sts d.2))] := fun h => hK _ ⟨_, _, rfl, fun d' m => by
      rw [take_snoc ed, List.mem_append, List.mem_singleton] at m
      rcases m with m | rfl
      · exact hi d' m
      · exact h⟩
    simp
    refine ⟨cols, d.1, one, other, rfl, h1, h2, h3, ?_⟩
    cases ha : agreeB cols one other d.1 with
    | false => simp; exact next0 (by rw [ha]; nofun)
    | true =>
      simp
      refine ⟨cols, d.2, one, other, rfl, h1, h2, h3, ?_⟩
      cases hb : agreeB cols one other d.2 with
      | true => simp; exact next0 fun _ => hb
      | false =>
        simp
        have : keepB cols dps one other = false := by
          rw [Bool.eq_false_iff]
          intro h
          have := keep_step.mp h d (List.mem_of_getElem? ed) ha
          rw [hb] at this; cases this
        rw [this] at hR
        exact hR
  · rintro Γ ⟨v4, v5, rfl, hi⟩
    rw [List.take_length] at hi
    rw [keep_step.mpr hi] at hR
    simpa using hR
theorem allC_len (dps : List Dep) : (allC dps).length ≤ 6 := Nat.le_trans (List.length_filter_le _ _) (by decide +kernel)
theorem deps_snoc {dps : List Dep} {dep : Dep} : PyData.tuple (dps.map depD ++ [depD dep]) = depsD (dps ++ [dep]) := by simp [depsD]
theorem cols_call {dps : List Dep} {dep : Dep} {R : O → Prop} (w : Wf dps) (c1 : Cols dep.1) (c2 : Cols dep.2) (hR : R (.dat (sts (allC (dps ++ [dep]))))) : S_columns_of [depsD (dps ++ [dep])] R :=
  ⟨dps ++ [dep], rfl, by have := w.len; rw [List.length_append, List.length_singleton]; omega, fun d m => by
    rcases List.mem_append.mp m with m | m
    · exact w.cols d m
    · obtain rfl : d = dep := by simpa using m
      exact ⟨c1, c2⟩, hR⟩
@[simp] theorem idx_dep0 {d : Dep} {Q : PD → Prop} : dIdx (.tuple [sts d.1, sts d.2]) (.int 0) Q = Q (sts d.1) := by rw [idx_t, atI_0, ofO_s]
theorem h_is_breaking : ∀ ds R, ds.length = 4 → S_is_breaking ds R → W_is_breaking (st0 2 ds) { nx := fun _ => R (.dat .none), rt := fun o _ => R o } := by
  rintro ds R hl ⟨dps, dep, one, other, rfl, w, c1, c2, h1, h2, hR⟩
  have hw := w.len
  have hc := allC_len (dps ++ [dep])
  simp [W_is_breaking]
  refine ⟨by omega, ?_⟩
  have e := @deps_snoc dps dep
  simp only [depD] at e
  rw [e]
  refine cols_call w c1 c2 ?_
  simp [h1, h2]
  refine ⟨allC (dps ++ [dep]), dps, one, other, rfl, h1, h2, hc, ?_⟩
  unfold breakB at hR
  cases hk : keepB (allC (dps ++ [dep])) dps one other with
  | false =>
    rw [hk] at hR
    simp
    exact hR
  | true =>
    rw [hk, Bool.true_and] at hR
    simp
    refine ⟨allC (dps ++ [dep]), [dep], one, other, rfl, h1, h2, hc, ?_⟩
    simp
    exact hR
end K60
set_option Elab.async false
set_option linter.all false
set_option maxRecDepth 100000
set_option maxHeartbeats 400000
namespace K60
open PySem L3
@[simp] theorem isB_i {k : Int} : (PyData.int k).isBool = false := rfl
@[simp] theorem isI_i {k : Int} : (PyData.int k).isInt = true := rfl
@[simp] theorem isT_i {k : Int} : (PyData.int k).isTuple = false := rfl
@[simp] theorem isN_i {k : Int} : isNone (PyData.int k) = false := rfl
theorem dedup_inj {α β : Type} [DecidableEq α] [DecidableEq β] {f : α → β} (hf : ∀ a b, f a = f b → a = b) {xs : List α} : dedup (xs.map f) = (dedup xs).map f := by
  have : ∀ (ys acc : List α), ((ys.map f).foldl (fun acc x => if x ∈ acc then acc else acc ++ [x]) (acc.map f)) = (ys.foldl (fun acc x => if x ∈ acc then acc else acc ++ [x]) acc).map f := by
    intro ys
    induction ys with
    | nil => intro acc; rfl
    | cons y ys ih =>
      intro acc
      rw [List.map_cons, List.foldl_cons, List.foldl_cons]
      have e : (f y ∈ acc.map f) ↔ y ∈ acc := by
        rw [List.mem_map]
        constructor
        · rintro ⟨a, ha, e⟩; rw [← hf _ _ e]; exact ha
        · exact fun h => ⟨y, h, rfl⟩
      by_cases h : y ∈ acc
      · rw [if_pos (e.mpr h), if_pos h]; exact ih acc
      · rw [if_neg (fun z => h (e.mp z)), if_neg h]
        have := ih (acc ++ [y])
        rw [List.map_append] at this
        exact this
  exact this xs []
theorem dedup_nd {α : Type} [DecidableEq α] {xs : List α} : (dedup xs).length = xs.length ↔ xs.Nodup := by
  constructor
  · have : ∀ (ys acc : List α), acc.Nodup → (ys.foldl (fun acc x => if x ∈ acc then acc else acc ++ [x]) acc).length = acc.length + ys.length → (acc ++ ys).Nodup := by
      intro ys
      induction ys with
      | nil => intro acc h _; simpa using h
      | cons y ys ih =>
        intro acc h e
        rw [List.foldl_cons] at e
        by_cases hy : y ∈ acc
        · rw [if_pos hy] at e
          have bound : ∀ (ys acc : List α), (ys.foldl (fun acc x => if x ∈ acc then acc else acc ++ [x]) acc).length ≤ acc.length + ys.length := by
            intro ys
            induction ys with
            | nil => intro acc; simp
            | cons y ys ih =>
              intro acc
              rw [List.foldl_cons]
              refine Nat.le_trans (ih _) ?_
              split
              · simp only [List.length_cons]; omega
              · simp only [List.length_cons, List.length_append, List.length_nil]; omega
          have := bound ys acc
          rw [List.length_cons] at e
          omega
        · rw [if_neg hy] at e
          have nd : (acc ++ [y]).Nodup := List.nodup_append.mpr ⟨h, by simp, fun a m b m2 e' => by
            have e2 : b = y := by simpa using m2
            rw [e', e2] at m; exact hy m⟩
          have := ih (acc ++ [y]) nd (by rw [e, List.length_append, List.length_cons, List.length_singleton]; omega)
          simpa using this
    intro h
    have := this xs [] List.nodup_nil (by simpa [dedup] using h)
    simpa using this
  · intro h
    rw [dedup_nodup h]
theorem atoms_ints {xs : List Int} : (xs.map PyData.int).all atomD = true := by
  rw [List.all_eq_true]
  intro d m
  obtain ⟨x, _, rfl⟩ := List.mem_map.mp m
  rfl
theorem once_nums {xs : List Int} {R : O → Prop} (h : xs.length ≤ sizeLine) (hR : R (.dat (nums (dedup xs)))) : S_once [nums xs] R :=
  ⟨xs.map .int, rfl, atoms_ints, by simpa using h, by rw [dedup_inj (fun a b e => by cases e; rfl)]; exact hR⟩
theorem runS_append {dps : List Dep} {a b : List Int} {h : List Str} : runS dps h (a ++ b) = (runS dps h a).bind fun had => runS dps had b := by
  induction a generalizing h with
  | nil => rfl
  | cons k a ih =>
    simp only [List.cons_append, runS]
    split
    · split
      · split
        · exact ih
        · rfl
      · rfl
    · rfl
theorem runS_fail {dps : List Dep} {st : List Int} {h had : List Str} {i : Nat} {k : Int} (hk : st[i]? = some k) (e : runS dps h (st.take i) = some had) (hf : runS dps had [k] = none) : runS dps h st = none := by
  obtain ⟨hl, e2⟩ := List.getElem?_eq_some_iff.mp hk
  have : st = st.take i ++ ([k] ++ st.drop (i + 1)) := by
    rw [← e2]
    have := List.take_append_drop i st
    rw [List.drop_eq_getElem_cons hl] at this
    exact this.symm
  rw [this, runS_append, e]
  show runS dps had ([k] ++ st.drop (i + 1)) = none
  rw [runS_append, hf]
  rfl
theorem run1 {dps : List Dep} {had : List Str} {k : Int} : runS dps had [k] = if 0 ≤ k ∧ k < dps.length then (match dps[k.toNat]? with
    | some d => if (d.1.all fun y => decide (y ∈ had)) = true then some (had ++ d.2) else none
    | none => none) else none := rfl
theorem leads_none {dps : List Dep} {dep : Dep} {st : List Int} (h : runS dps dep.1 st = none) : leadsB dps dep st = false := by
  unfold leadsB; rw [h]; simp
theorem h_is_leading : ∀ ds R, ds.length = 3 → S_is_leading ds R → W_is_leading (st0 2 ds) { nx := fun _ => R (.dat .none), rt := fun o _ => R o } := by
  rintro ds R hl ⟨dps, dep, st, rfl, w, c1, c2, hz, hR⟩
  have s1 := c1.len
  have s2 := w.len
  simp [W_is_leading]
  refine once_nums (by rw [sz]; omega) ?_
  simp
  by_cases hnd : st.Nodup
  · have e0 := dedup_nd.mpr hnd
    simp [e0]
    refine once_strs (by rw [sz]; omega) ?_
    simp
    rw [dedup_nodup c1.nd]
    refine for_ty PyData.int (fun i Γ => ∃ kn had v4, Γ = [some (.dat (depsD dps)), some (.dat (.tuple [sts dep.1, sts dep.2])), some (.dat (nums st)), some (.dat (sts kn)), v4] ∧ Cols kn ∧ runS dps dep.1 (st.take i) = some had ∧ ∀ x, x ∈ kn ↔ x ∈ had) ⟨dep.1, dep.1, none, rfl, c1, rfl, fun _ => Iff.rfl⟩ ?_ ?_
    · rintro i k Γ K ek ⟨kn, had, v4, rfl, ck, hrun, hkh⟩ hK
      have lk := ck.len
      have bad : runS dps had [k] = none → R (.dat (.bool false)) := fun h => by
        rw [leads_none (runS_fail ek hrun h)] at hR
        exact hR
      rw [run1] at bad
      by_cases hk : 0 ≤ k ∧ k < dps.length
      · obtain ⟨n, rfl⟩ : ∃ n : Nat, k = n := ⟨k.toNat, by omega⟩
        have hn : n < dps.length := by omega
        have hd : dps[n]? = some dps[n] := List.getElem?_eq_getElem hn
        obtain ⟨cdl, cdr⟩ := w.cols dps[n] (List.getElem_mem hn)
        have ldr := cdr.len
        rw [if_pos hk, Int.toNat_natCast, hd] at bad
        have hq2 : (dps[n].1.all fun y => decide (y ∈ kn)) = (dps[n].1.all fun y => decide (y ∈ had)) := by
          congr 1; funext x; rw [decide_eq_decide]; exact hkh x
        simp [hn]
        refine has_all_call cdl ?_
        cases hq : (dps[n].1.all fun y => decide (y ∈ kn)) with
        | false =>
          simp
          rw [hq2] at hq
          exact bad (by simp only; rw [hq]; rfl)
        | true =>
          simp
          refine ⟨by omega, ?_⟩
          refine once_strs (by rw [List.length_append, sz]; omega) ?_
          simp
          refine hK _ ⟨dedup (kn ++ dps[n].2), had ++ dps[n].2, _, rfl, ⟨nodup_dedup _, fun x m => ?_⟩, ?_, fun x => by rw [mem_dedup, List.mem_append, List.mem_append, hkh x]⟩
          · rcases List.mem_append.mp (mem_dedup.mp m) with m | m
            · exact ck.sub x m
            · exact cdr.sub x m
          · rw [take_snoc ek]
            refine runS_snoc hrun hd fun y my => ?_
            rw [hq2, List.all_eq_true] at hq
            simpa using hq y my
      · rw [if_neg hk] at bad
        have hb := bad rfl
        by_cases h0 : 0 ≤ k
        · have h1 : ¬ k < dps.length := fun h => hk ⟨h0, h⟩
          simp [h0, h1]
          exact hb
        · simp [h0]
          exact hb
    · rintro Γ ⟨kn, had, v4, rfl, ck, hrun, hkh⟩
      rw [List.take_length] at hrun
      simp
      refine has_all_call c2 ?_
      simp
      have : leadsB dps dep st = (dep.2.all fun y => decide (y ∈ kn)) := by
        unfold leadsB
        rw [hrun, decide_eq_true hnd, Bool.true_and]
        show (dep.2.all fun x => decide (x ∈ had)) = _
        congr 1; funext x; rw [decide_eq_decide]; exact (hkh x).symm
      rw [← this]
      exact hR
  · have e0 : ¬ (dedup st).length = st.length := fun h => hnd (dedup_nd.mp h)
    have e1 : ¬ ((dedup st).length : Int) = st.length := fun h => e0 (by omega)
    rw [if_neg e1]
    have : leadsB dps dep st = false := by unfold leadsB; rw [decide_eq_false hnd, Bool.false_and]
    rw [this] at hR
    exact hR
/-! ## the law's own -/
theorem h__law_leads : ∀ ds R, ds.length = 3 → S__law_leads ds R → W__law_leads (st0 4 ds) { nx := fun _ => R (.dat .none), rt := fun o _ => R o } := by
  rintro ds R hl ⟨dps, dep, st, rfl, w, c1, c2, hz, hR⟩
  have s1 := c1.len
  have s2 := w.len
  simp [W__law_leads]
  refine for_ty PyData.int (fun i Γ => ∃ had met v5, Γ = [some (.dat (depsD dps)), some (.dat (.tuple [sts dep.1, sts dep.2])), some (.dat (nums st)), some (.dat (.list (had.map .str))), some (.lst (met.map .int)), v5, none] ∧ met = st.take i ∧ (st.take i).Nodup ∧ runS dps dep.1 (st.take i) = some had ∧ had.length ≤ 6 + 6 * i) ⟨dep.1, [], none, rfl, rfl, List.nodup_nil, rfl, by omega⟩ ?_ ?_
  · rintro i k Γ K ek ⟨had, met, v5, rfl, hmet, hnd, hrun, hhl⟩ hK
    have hml : met.length ≤ i := by rw [hmet, List.length_take]; omega
    have hi : i < st.length := (List.getElem?_eq_some_iff.mp ek).1
    have bad : leadsB dps dep st = false → R (.dat (.bool false)) := fun h => by
      rw [h] at hR
      exact hR
    have bad1 : runS dps had [k] = none → R (.dat (.bool false)) := fun h => bad (leads_none (runS_fail ek hrun h))
    rw [run1] at bad1
    by_cases hk : 0 ≤ k ∧ k < dps.length
    · obtain ⟨n, rfl⟩ : ∃ n : Nat, k = n := ⟨k.toNat, by omega⟩
      have hn : n < dps.length := by omega
      have hd : dps[n]? = some dps[n] := List.getElem?_eq_getElem hn
      obtain ⟨cdl, cdr⟩ := w.cols dps[n] (List.getElem_mem hn)
      have ldl := cdl.len
      have ldr := cdr.len
      rw [if_pos hk, Int.toNat_natCast, hd] at bad1
      have hn0 : ¬ ((n : Int) < 0) := by omega
      have hn1 : ¬ (dps.length ≤ n) := by omega
      by_cases hin : (n : Int) ∈ met
      · simp [hn0, hn1, hin]
        refine bad ?_
        have : ¬ st.Nodup := fun h => by
          have e1 := take_snoc ek
          have : (st.take (i + 1)).Nodup := h.sublist (List.take_sublist _ _)
          rw [e1] at this
          exact (List.nodup_append.mp this).2.2 _ (hmet ▸ hin) _ (by simp) rfl
        unfold leadsB; rw [decide_eq_false this, Bool.false_and]
      · simp [hn0, hn1, hin, hn]
        refine cL_q PyData.str (fun x => [some (.dat (depsD dps)), some (.dat (.tuple [sts dep.1, sts dep.2])), some (.dat (nums st)), some (.dat (.list (had.map .str))), none, some (.dat (.int n)), some (.dat (.str x))]) (fun x => !decide (x ∈ had)) PyData.str [] (by intro x m K hK; simpa using hK) (by intro x m; simp) (by intro x m K hK; simpa using hK) (by intro x m hf K hK; simpa using hK) (by simp; omega) ?_
        rw [List.nil_append]
        have hemp : (dps[n].1.filter fun x => !decide (x ∈ had)).isEmpty = dps[n].1.all fun x => decide (x ∈ had) := by
          rw [filter_emp]; congr 1; funext x; rw [Bool.not_not]
        rw [ne_strs0, hemp]
        cases hq : (dps[n].1.all fun x => decide (x ∈ had)) with
        | false =>
          simp
          exact bad1 (by simp only; rw [hq]; rfl)
        | true =>
          simp [hn]
          refine ⟨by omega, by omega, ?_⟩
          refine hK _ ⟨had ++ dps[n].2, met ++ [(n : Int)], _, by rw [List.map_append, List.map_append]; rfl, by rw [take_snoc ek, hmet], ?_, ?_, by rw [List.length_append]; omega⟩
          · rw [take_snoc ek]
            exact List.nodup_append.mpr ⟨hnd, by simp, fun a m b m2 e => by
              have e2 : b = (n : Int) := by simpa using m2
              rw [e, e2, ← hmet] at m; exact hin m⟩
          · rw [take_snoc ek]
            refine runS_snoc hrun hd fun y my => ?_
            simpa using List.all_eq_true.mp hq y my
    · rw [if_neg hk] at bad1
      have hb := bad1 rfl
      by_cases h0 : k < 0
      · simp [h0]; exact hb
      · have h1 : (dps.length : Int) ≤ k := by omega
        simp [h0, h1]
        exact hb
  · rintro Γ ⟨had, met, v5, rfl, hmet, hnd, hrun, hhl⟩
    rw [List.take_length] at hrun hnd
    have l2 := c2.len
    simp
    refine cL_q PyData.str (fun x => [some (.dat (depsD dps)), some (.dat (.tuple [sts dep.1, sts dep.2])), some (.dat (nums st)), some (.dat (.list (had.map .str))), none, er1 v5, some (.dat (.str x))]) (fun x => !decide (x ∈ had)) PyData.str [] (by intro x m K hK; simpa using hK) (by intro x m; simp) (by intro x m K hK; simpa using hK) (by intro x m hf K hK; simpa using hK) (by simp; omega) ?_
    have hemp : (dep.2.filter fun x => !decide (x ∈ had)).isEmpty = dep.2.all fun x => decide (x ∈ had) := by
      rw [filter_emp]; congr 1; funext x; rw [Bool.not_not]
    rw [List.nil_append, eq_strs0, hemp]
    have : leadsB dps dep st = (dep.2.all fun y => decide (y ∈ had)) := by
      unfold leadsB
      rw [hrun, decide_eq_true hnd, Bool.true_and]
    rw [← this]
    exact hR
theorem h__law_closure : ∀ ds R, ds.length = 2 → S__law_closure ds R → W__law_closure (st0 5 ds) { nx := fun _ => R (.dat .none), rt := fun o _ => R o } := by
  rintro ds R hl ⟨dps, cs, rfl, w, c, hR⟩
  have s1 := c.len
  have s2 := w.len
  simp [W__law_closure]
  refine cL_q PyData.str (fun x => [some (.dat (depsD dps)), some (.dat (sts cs)), none, none, some (.dat (.str x)), none, none]) (fun _ => true) PyData.str [] (by intro x m K hK; simpa using hK) (by intro x m; simp) (by intro x m K hK; simpa using hK) (by intro x m hf K hK; simpa using hK) (by simp; omega) ?_
  rw [List.filter_eq_self.mpr (fun _ _ => rfl), List.nil_append]
  simp
  refine ⟨by omega, ?_⟩
  let Fix : List Str → Prop := fun found => ∀ d ∈ dps, (∀ y ∈ d.1, y ∈ found) → ∀ x ∈ d.2, x ∈ found
  let sat : List Str → Nat := fun found => (dps.filter fun d => d.2.all fun x => decide (x ∈ found)).length
  have bound : ∀ found : List Str, found.Nodup → (∀ x ∈ found, Led dps cs x) → found.length ≤ 6 := fun found nd h => nodup_len nd (ys := LET) fun x m => (ledL_cols dps cs).sub x ((mem_ledL w c).mpr (h x m))
  have e0 : ((dps.length : Int) + 1).toNat = dps.length + 1 := by omega

  refine for_ty (fun k : Nat => PyData.int (0 + k)) (xs := List.range (dps.length + 1)) (fun i Γ => ∃ found v3 v5 v6, Γ = [some (.dat (depsD dps)), some (.dat (sts cs)), some (.dat (.list (found.map .str))), v3, none, v5, v6] ∧ found.Nodup ∧ (∀ x ∈ cs, x ∈ found) ∧ (∀ x ∈ found, Led dps cs x) ∧ (Fix found ∨ i ≤ sat found))
    ⟨cs, none, none, none, rfl, c.nd, fun _ m => m, fun _ m => .base m, .inr (Nat.zero_le _)⟩ ?_ ?_
  · rintro i t Γ K et ⟨found, v3, v5, v6, rfl, nd, h1, h2, h3⟩ hK
    simp
    refine for_ty depD (fun j Γ => ∃ fd v5 v6, Γ = [some (.dat (depsD dps)), some (.dat (sts cs)), some (.dat (.list (fd.map .str))), some (.dat (.int t)), none, v5, v6] ∧ fd.Nodup ∧ (∀ x ∈ found, x ∈ fd) ∧ (∀ x ∈ fd, Led dps cs x) ∧
      (∀ d ∈ dps.take j, (∀ y ∈ d.1, y ∈ found) → ∀ x ∈ d.2, x ∈ fd) ∧ (Fix found → fd = found)) ⟨found, v5, v6, rfl, nd, fun _ m => m, h2, by simp, fun _ => rfl⟩ ?_ ?_
    · rintro j d Γ K ed ⟨fd, v5, v6, rfl, nd', g1, g2, g3, g4⟩ hK
      have hd : d ∈ dps := List.mem_of_getElem? ed
      obtain ⟨cl, cr⟩ := w.cols d hd
      have l1 := cl.len
      have l2 := cr.len
      have lf := bound fd nd' g2
      simp
      refine cL_q PyData.str (fun x => [some (.dat (depsD dps)), some (.dat (sts cs)), some (.dat (.list (fd.map .str))), some (.dat (.int t)), some (.dat (.str x)), some (.dat (sts d.1)), some (.dat (sts d.2))]) (fun x => !decide (x ∈ fd)) PyData.str [] (by intro x m K hK; simpa using hK) (by intro x m; simp) (by intro x m K hK; simpa using hK) (by intro x m hf K hK; simpa using hK) (by simp; omega) ?_
      rw [List.nil_append, eq_strs0, filter_emp]
      have hal : (d.1.all fun x => !!decide (x ∈ fd)) = true ↔ ∀ y ∈ d.1, y ∈ fd := by rw [List.all_eq_true]; simp
      cases hq : (d.1.all fun x => !!decide (x ∈ fd)) with
      | false =>
        simp
        refine hK _ ⟨fd, _, _, rfl, nd', g1, g2, fun d' md => ?_, g4⟩
        rw [take_snoc ed, List.mem_append, List.mem_singleton] at md
        rcases md with md | rfl
        · exact g3 d' md
        · intro hy
          rw [hal.mpr fun y my => g1 y (hy y my)] at hq
          cases hq
      | true =>
        have hall := hal.mp hq
        simp
        refine cL_q PyData.str (fun x => [some (.dat (depsD dps)), some (.dat (sts cs)), some (.dat (.list (fd.map .str))), some (.dat (.int t)), some (.dat (.str x)), some (.dat (sts d.1)), some (.dat (sts d.2))]) (fun x => !decide (x ∈ fd)) PyData.str [] (by intro x m K hK; simpa using hK) (by intro x m; simp) (by intro x m K hK; simpa using hK) (by intro x m hf K hK; simpa using hK) (by simp; omega) ?_
        have hmem : ∀ x, x ∈ (d.2.filter fun x => !decide (x ∈ fd)) ↔ x ∈ d.2 ∧ x ∉ fd := fun x => by rw [List.mem_filter]; simp
        have hmn : (d.2.filter fun x => !decide (x ∈ fd)).Nodup := cr.nd.sublist List.filter_sublist
        have hml : (d.2.filter fun x => !decide (x ∈ fd)).length ≤ d.2.length := List.length_filter_le _ _
        rw [List.nil_append]
        generalize (d.2.filter fun x => !decide (x ∈ fd)) = more at hmem hmn hml ⊢
        simp
        refine ⟨by omega, hK _ ⟨fd ++ more, _, _, by rw [List.map_append], ?_, fun x m => List.mem_append_left _ (g1 x m), ?_, fun d' md hy x mx => ?_, fun hF => ?_⟩⟩
        · exact List.nodup_append.mpr ⟨nd', hmn, fun a m b m2 e => by subst e; exact ((hmem a).mp m2).2 m⟩
        · intro x m
          rcases List.mem_append.mp m with m | m
          · exact g2 x m
          · exact .step hd (fun y my => g2 y (hall y my)) ((hmem x).mp m).1
        · rw [take_snoc ed, List.mem_append, List.mem_singleton] at md
          rw [List.mem_append]
          rcases md with md | rfl
          · exact .inl (g3 d' md hy x mx)
          · by_cases hx : x ∈ fd
            · exact .inl hx
            · exact .inr ((hmem x).mpr ⟨mx, hx⟩)
        · have e := g4 hF
          have : more = [] := by
            cases hmo : more with
            | nil => rfl
            | cons x xs =>
              have hx := (hmem x).mp (by rw [hmo]; simp)
              rw [e] at hx hall
              exact absurd (hF d hd hall x hx.1) hx.2
          rw [this, List.append_nil]
          exact e
    · rintro Γ ⟨fd, v5, v6, rfl, nd', g1, g2, g3, g4⟩
      rw [List.take_length] at g3
      refine hK _ ⟨fd, _, _, _, rfl, nd', fun x m => g1 x (h1 x m), g2, ?_⟩
      by_cases hF : Fix found
      · rw [g4 hF]; exact .inl hF
      · right
        have h3' := h3.resolve_left hF
        have : sat found < sat fd := by
          have hex : ∃ d ∈ dps, (∀ y ∈ d.1, y ∈ found) ∧ ∃ x ∈ d.2, x ∉ found := by
            apply Classical.byContradiction
            intro hn
            refine hF fun d hd hy x mx => ?_
            apply Classical.byContradiction
            intro hx
            exact hn ⟨d, hd, hy, x, mx, hx⟩
          obtain ⟨d, hd, hy, x, mx, hx⟩ := hex
          have strict : ∀ (l : List Dep) (p q : Dep → Bool), (∀ d, p d = true → q d = true) → (∃ d ∈ l, q d = true ∧ p d = false) → (l.filter p).length < (l.filter q).length := by
            intro l p q hpq
            have mono : ∀ l : List Dep, (l.filter p).length ≤ (l.filter q).length := fun l => by
              induction l with
              | nil => simp
              | cons a l ih =>
                cases hp : p a with
                | true => simp [hp, hpq a hp]; exact ih
                | false =>
                  simp only [List.filter_cons, hp]
                  cases hq : q a with
                  | true => simp; omega
                  | false => simpa using ih
            induction l with
            | nil => rintro ⟨_, m, _⟩; cases m
            | cons a l ih =>
              rintro ⟨d, m, h1, h2⟩
              rcases List.mem_cons.mp m with rfl | m
              · have := mono l
                simp [h1, h2]; omega
              · have := ih ⟨d, m, h1, h2⟩
                cases hp : p a with
                | true => simp [hp, hpq a hp]; exact this
                | false =>
                  simp only [List.filter_cons, hp]
                  cases hq : q a with
                  | true => simp; omega
                  | false => simpa using this
          refine strict dps _ _ (fun d' h => ?_) ⟨d, hd, ?_, ?_⟩
          · rw [List.all_eq_true] at h ⊢
            intro x mx
            have := h x mx
            simp at this ⊢
            exact g1 x this
          · rw [List.all_eq_true]
            intro x mx
            simpa using g3 d hd hy x mx
          · rw [List.all_eq_false]
            exact ⟨x, mx, by simpa using hx⟩
        omega
  · rintro Γ ⟨found, v3, v5, v6, rfl, nd, h1, h2, h3⟩
    rw [List.length_range] at h3
    have hF : Fix found := by
      rcases h3 with h | h
      · exact h
      · have : sat found ≤ dps.length := List.length_filter_le _ _
        omega
    have lf := bound found nd h2
    simp
    refine cL_q PyData.str (fun x => [some (.dat (depsD dps)), some (.dat (sts cs)), some (.dat (.list (found.map .str))), er1 v3, some (.dat (.str x)), er1 v5, er1 v6]) (fun _ => true) PyData.str [] (by intro x m K hK; simpa using hK) (by intro x m; simp) (by intro x m K hK; simpa using hK) (by intro x m hf K hK; simpa using hK) (by simp; omega) ?_
    rw [List.filter_eq_self.mpr (fun _ _ => rfl), List.nil_append]
    refine ⟨sortOk_strs, ?_⟩
    rw [sorted_led w c nd (led_fix w h1 h2 hF)]
    exact hR
theorem h__law_holds : ∀ ds R, ds.length = 2 → S__law_holds ds R → W__law_holds (st0 2 ds) { nx := fun _ => R (.dat .none), rt := fun o _ => R o } := by
  classical
  rintro ds R hl ⟨dps, dep, rfl, w, c1, c2, hR⟩
  have l2 := c2.len
  simp [W__law_holds]
  refine ⟨dps, dep.1, rfl, w, c1, ?_⟩
  simp
  refine cL_q PyData.str (fun x => [some (.dat (depsD dps)), some (.dat (.tuple [sts dep.1, sts dep.2])), some (.dat (sts (ledL dps dep.1))), some (.dat (.str x))]) (fun x => !decide (x ∈ ledL dps dep.1)) PyData.str [] (by intro x m K hK; simpa using hK) (by intro x m; simp) (by intro x m K hK; simpa using hK) (by intro x m hf K hK; simpa using hK) (by simp; omega) ?_
  rw [List.nil_append, eq_strs0, filter_emp]
  have : (dep.2.all fun x => !!decide (x ∈ ledL dps dep.1)) = @decide (AllLed dps dep) (Classical.propDecidable _) := by
    rw [Bool.eq_iff_iff, List.all_eq_true, decide_eq_true_iff]
    unfold AllLed
    refine forall_congr' fun x => forall_congr' fun _ => ?_
    rw [Bool.not_not, decide_eq_true_iff, mem_ledL w c1]
  rw [this]
  exact hR
end K60
set_option Elab.async false
set_option linter.all false
set_option maxRecDepth 100000
set_option maxHeartbeats 400000
namespace K60
open PySem L3
/-! ## follows -/
theorem agree_iff {cols own : List Str} {g : Str → Int} {one other : List Int} (h1 : one = List.replicate cols.length 0) (h2 : other = cols.map g) : agreeB cols one other own = true ↔ ∀ x ∈ cols, x ∈ own → g x = 0 := by
  subst h1 h2
  unfold agreeB
  rw [List.all_eq_true]
  constructor
  · intro h x mx ho
    obtain ⟨k, hk⟩ := List.getElem?_of_mem mx
    have hl := (List.getElem?_eq_some_iff.mp hk).1
    have := h k (by simpa using hl)
    simp [hk, ho, hl] at this
    rw [List.getElem?_eq_getElem hl, Option.some.injEq] at hk
    rw [hk] at this
    exact (this.resolve_left (fun h => h ho)).symm
  · intro h k mk
    have hl : k < cols.length := by simpa using mk
    have := h cols[k] (List.getElem_mem hl)
    simp [hl]
    by_cases hq : cols[k] ∈ own
    · exact .inr (this hq).symm
    · exact .inl hq
theorem mem_allC {dps : List Dep} (h : ∀ d ∈ dps, Cols d.1 ∧ Cols d.2) {x : Str} : x ∈ allC dps ↔ ∃ d ∈ dps, x ∈ d.1 ∨ x ∈ d.2 := by
  unfold allC
  rw [List.mem_filter]
  simp only [List.any_eq_true, decide_eq_true_eq]
  refine ⟨fun h => h.2, fun ⟨d, md, hx⟩ => ⟨?_, d, md, hx⟩⟩
  rcases hx with hx | hx
  · exact (h d md).1.sub x hx
  · exact (h d md).2.sub x hx
theorem no_break {dps : List Dep} {dep : Dep} (w : Wf dps) (c1 : Cols dep.1) (c2 : Cols dep.2) (hn : ¬ AllLed dps dep) {one other : List Int} (h1 : one = List.replicate (allC (dps ++ [dep])).length 0) (h2 : other = (allC (dps ++ [dep])).map fun x => if x ∈ ledL dps dep.1 then (0 : Int) else 1) :
    breakB dps dep one other = true := by
  have hall : ∀ d ∈ dps ++ [dep], Cols d.1 ∧ Cols d.2 := fun d m => by
    rcases List.mem_append.mp m with m | m
    · exact w.cols d m
    · obtain rfl : d = dep := by simpa using m
      exact ⟨c1, c2⟩
  have ag : ∀ own, agreeB (allC (dps ++ [dep])) one other own = true ↔ ∀ x ∈ allC (dps ++ [dep]), x ∈ own → Led dps dep.1 x := fun own => by
    rw [agree_iff h1 h2]
    refine forall_congr' fun x => forall_congr' fun _ => forall_congr' fun _ => ?_
    rw [← mem_ledL w c1]
    split <;> simp [*]
  unfold breakB
  rw [Bool.and_eq_true, Bool.not_eq_true', Bool.eq_false_iff]
  constructor
  · rw [keep_step]
    intro d md ha
    rw [ag] at ha ⊢
    intro x _ hx
    refine .step md (fun y my => ha y ?_ my) hx
    exact (mem_allC hall).mpr ⟨d, by simp [md], .inl my⟩
  · intro h
    rw [keep_step] at h
    have := h dep (by simp) ((ag _).mpr fun x _ hx => .base hx)
    rw [ag] at this
    refine hn fun x hx => this x ?_ hx
    exact (mem_allC hall).mpr ⟨dep, by simp, .inr hx⟩
theorem h_follows : ∀ ds R, ds.length = 2 → S_follows ds R → W_follows (st0 4 ds) { nx := fun _ => R (.dat .none), rt := fun o _ => R o } := by
  rintro ds R hl ⟨dps, dep, rfl, w, c1, c2, hY, hN⟩
  have s2 := w.len
  have lc := allC_len (dps ++ [dep])
  simp [W_follows]
  refine ⟨dps, dep.1, dep.2, rfl, w, c1, c2, fun hn => ?_, fun st h hz => ?_⟩
  · simp
    refine ⟨by omega, ?_⟩
    have e := @deps_snoc dps dep
    simp only [depD] at e
    rw [e]
    refine cols_call w c1 c2 ?_
    simp
    refine ⟨dps, dep.1, rfl, w, c1, ?_⟩
    simp
    refine ⟨⟨by omega, by omega⟩, ?_⟩
    refine cL_q PyData.str (fun x => [some (.dat (depsD dps)), some (.dat (.tuple [sts dep.1, sts dep.2])), some (.dat .none), some (.dat (sts (allC (dps ++ [dep])))), some (.dat (sts (ledL dps dep.1))), some (.dat (.str x))]) (fun _ => true) (fun x => PyData.int (if x ∈ ledL dps dep.1 then 0 else 1)) [] (by intro x m K hK; simpa using hK) (by intro x m; simp) (by intro x m K hK; simpa using hK) ?_ (by simp; omega) ?_
    · intro x m _ K hK
      by_cases h : x ∈ ledL dps dep.1
      · simp [h] at hK ⊢; exact hK
      · simp [h] at hK ⊢; exact hK
    · rw [List.filter_eq_self.mpr (fun _ _ => rfl), List.nil_append]
      have := hN hn (List.replicate (allC (dps ++ [dep])).length 0) ((allC (dps ++ [dep])).map fun x => if x ∈ ledL dps dep.1 then (0 : Int) else 1) (by simp) (by simp) (fun b m => ?_) (no_break w c1 c2 hn rfl rfl)
      · unfold nums at this
        rw [List.map_replicate, List.map_map] at this
        exact this
      · rcases List.mem_append.mp m with m | m
        · rw [(List.mem_replicate.mp m).2]; decide
        · obtain ⟨x, _, rfl⟩ := List.mem_map.mp m
          split <;> decide
  · simp
    by_cases ha : AllLed dps dep
    · exact hY ha st h hz
    · exfalso
      refine ha fun x hx => ?_
      unfold leadsB at h
      cases hr : runS dps dep.1 st with
      | none => rw [hr] at h; simp at h
      | some had =>
        rw [hr] at h
        simp only [Bool.and_eq_true, List.all_eq_true, decide_eq_true_eq] at h
        exact (runS_inv hr fun x m => .base m).2.1 x (h.2 x hx)
/-! ## the law's own -/
@[simp] theorem isT_t {xs : List PD} : (PyData.tuple xs).isTuple = true := rfl
@[simp] theorem isN_t {xs : List PD} : isNone (PyData.tuple xs) = false := rfl
@[simp] theorem max_ii {i j : Int} {Q : PD → Prop} : dMax [.int i, .int j] Q = Q (.int (if j > i then j else i)) := rfl
theorem h__law_columns : ∀ ds R, ds.length = 2 → S__law_columns ds R → W__law_columns (st0 4 ds) { nx := fun _ => R (.dat .none), rt := fun o _ => R o } := by
  rintro ds R hl ⟨dps, dep, rfl, w, c1, c2, hR⟩
  have l1 := c1.len
  have l2 := c2.len
  have s2 := w.len
  have hall : ∀ d ∈ dps ++ [dep], Cols d.1 ∧ Cols d.2 := fun d m => by
    rcases List.mem_append.mp m with m | m
    · exact w.cols d m
    · obtain rfl : d = dep := by simpa using m
      exact ⟨c1, c2⟩
  simp [W__law_columns]
  refine ⟨by omega, ?_⟩
  refine for_ty depD (fun i Γ => ∃ found v3 v4, Γ = [some (.dat (depsD dps)), some (.dat (.tuple [sts dep.1, sts dep.2])), some (.dat (.list (found.map .str))), v3, v4, none] ∧ found.length ≤ 12 + 12 * i ∧ ∀ x, x ∈ found ↔ (x ∈ dep.1 ∨ x ∈ dep.2) ∨ ∃ d ∈ dps.take i, x ∈ d.1 ∨ x ∈ d.2)
    ⟨dep.1 ++ dep.2, none, none, by rw [List.map_append], by rw [List.length_append]; omega, fun x => by rw [List.mem_append]; simp⟩ ?_ ?_
  · rintro i d Γ K ed ⟨found, v3, v4, rfl, hle, hm⟩ hK
    have hi := (List.getElem?_eq_some_iff.mp ed).1
    obtain ⟨cl, cr⟩ := w.cols d (List.mem_of_getElem? ed)
    have l3 := cl.len
    have l4 := cr.len
    simp
    refine ⟨by omega, by omega, ?_⟩
    refine hK _ ⟨found ++ (d.1 ++ d.2), _, _, by rw [List.map_append, List.map_append], by rw [List.length_append, List.length_append]; omega, fun x => ?_⟩
    rw [take_snoc ed, List.mem_append, List.mem_append, hm]
    constructor
    · rintro ((h | ⟨d', md, h⟩) | h)
      · exact .inl h
      · exact .inr ⟨d', List.mem_append_left _ md, h⟩
      · exact .inr ⟨d, by simp, h⟩
    · rintro (h | ⟨d', md, h⟩)
      · exact .inl (.inl h)
      · rcases List.mem_append.mp md with md | md
        · exact .inl (.inr ⟨d', md, h⟩)
        · obtain rfl : d' = d := by simpa using md
          exact .inr h
  · rintro Γ ⟨found, v3, v4, rfl, hle, hm⟩
    rw [List.take_length] at hm
    simp
    refine cL_q (xs := LET) PyData.str (fun x => [some (.dat (depsD dps)), some (.dat (.tuple [sts dep.1, sts dep.2])), some (.dat (.list (found.map .str))), v3, v4, some (.dat (.str x))]) (fun x => decide (x ∈ found)) PyData.str [] (by intro x m K hK; simpa using hK) (by intro x m; simp) (by intro x m K hK; simpa using hK) (by intro x m hf K hK; simpa using hK) (by decide +kernel) ?_
    have e : (LET.filter fun x => decide (x ∈ found)) = allC (dps ++ [dep]) := by
      unfold allC
      apply List.filter_congr
      intro x _
      rw [Bool.eq_iff_iff, decide_eq_true_iff, hm]
      simp only [List.any_eq_true, decide_eq_true_eq]
      constructor
      · rintro (h | ⟨d, md, h⟩)
        · exact ⟨dep, by simp, h⟩
        · exact ⟨d, by simp [md], h⟩
      · rintro ⟨d, md, h⟩
        rcases List.mem_append.mp md with md | md
        · exact .inr ⟨d, md, h⟩
        · obtain rfl : d = dep := by simpa using md
          exact .inl h
    rw [List.nil_append, e]
    exact hR
theorem h__law_breaks : ∀ ds R, ds.length = 4 → S__law_breaks ds R → W__law_breaks (st0 3 ds) { nx := fun _ => R (.dat .none), rt := fun o _ => R o } := by
  rintro ds R hl ⟨dps, dep, one, other, rfl, w, c1, c2, h1, h2, hR⟩
  have hw := w.len
  have hc := allC_len (dps ++ [dep])
  simp [W__law_breaks]
  refine ⟨dps, dep, rfl, w, c1, c2, ?_⟩
  simp
  unfold breakB at hR
  refine for_ty depD (fun i Γ => ∃ v5 v6, Γ = [some (.dat (depsD dps)), some (.dat (.tuple [sts dep.1, sts dep.2])), some (.dat (nums one)), some (.dat (nums other)), some (.dat (.list ((allC (dps ++ [dep])).map .str))), v5, v6] ∧ ∀ d ∈ dps.take i, agreeB (allC (dps ++ [dep])) one other d.1 = true → agreeB (allC (dps ++ [dep])) one other d.2 = true) ⟨none, none, rfl, by simp⟩ ?_ ?_
  · rintro i d Γ K ed ⟨v5, v6, rfl, hi⟩ hK
    have next0 : (agreeB (allC (dps ++ [dep])) one other d.1 = true → agreeB (allC (dps ++ [dep])) one other d.2 = true) → K [some (.dat (depsD dps)), some (.dat (.tuple [sts dep.1, sts dep.2])), some (.dat (nums one)), some (.dat (nums other)), some (.dat (.list ((allC (dps ++ [dep])).map .str))), some (.dat (sts d.1)), some (.dat (sts d.2))] := fun h => hK _ ⟨_, _, rfl, fun d' m => by
      rw [take_snoc ed, List.mem_append, List.mem_singleton] at m
      rcases m with m | rfl
      · exact hi d' m
      · exact h⟩
    simp
    refine ⟨allC (dps ++ [dep]), d.1, one, other, rfl, h1, h2, hc, ?_⟩
    cases ha : agreeB (allC (dps ++ [dep])) one other d.1 with
    | false => simp; exact next0 (by rw [ha]; nofun)
    | true =>
      simp
      refine ⟨allC (dps ++ [dep]), d.2, one, other, rfl, h1, h2, hc, ?_⟩
      cases hb : agreeB (allC (dps ++ [dep])) one other d.2 with
      | true => simp; exact next0 fun _ => hb
      | false =>
        simp
        have : keepB (allC (dps ++ [dep])) dps one other = false := by
          rw [Bool.eq_false_iff]
          intro h
          have := keep_step.mp h d (List.mem_of_getElem? ed) ha
          rw [hb] at this; cases this
        rw [this, Bool.false_and] at hR
        exact hR
  · rintro Γ ⟨v5, v6, rfl, hi⟩
    rw [List.take_length] at hi
    rw [keep_step.mpr hi, Bool.true_and] at hR
    have hk : keepB (allC (dps ++ [dep])) [dep] one other = (!agreeB (allC (dps ++ [dep])) one other dep.1 || agreeB (allC (dps ++ [dep])) one other dep.2) := by
      unfold keepB; simp
    rw [hk] at hR
    simp
    refine ⟨allC (dps ++ [dep]), dep.1, one, other, rfl, h1, h2, hc, ?_⟩
    cases ha : agreeB (allC (dps ++ [dep])) one other dep.1 with
    | false =>
      rw [ha] at hR
      simp at hR ⊢
      exact hR
    | true =>
      rw [ha] at hR
      simp at hR ⊢
      exact ⟨allC (dps ++ [dep]), dep.2, one, other, rfl, h1, h2, hc, hR⟩
theorem h__law_is_row : ∀ ds R, ds.length = 3 → S__law_is_row ds R → W__law_is_row (st0 1 ds) { nx := fun _ => R (.dat .none), rt := fun o _ => R o } := by
  rintro ds R hl ⟨row, many, most, rfl, hz, hm, hr, hR⟩
  simp [W__law_is_row]
  have key : cL [3] (gD 3) (upT (wOr (wNot (wB (wIsi "int" (wDat 3)))) (wOr (wB (wIsi "bool" (wDat 3))) (wOr (wB (w2 dLt (wDat 3) (wC (PyData.int 0)))) (wB (w2 dGe (wDat 3) (wDat 2))))))) (up (wDat 3)) (row.map PyData.int) [] [some (.dat (nums row)), some (.dat (.int many)), some (.dat (.int most)), none] (fun acc Γ2 => dEq (.list acc) (.list []) fun d => R (.dat d)) := by
    refine cL_q PyData.int (fun x => [some (.dat (nums row)), some (.dat (.int many)), some (.dat (.int most)), some (.dat (.int x))]) (fun x => false) PyData.int [] (by intro x m K hK; simpa using hK) (by intro x m; simp) ?_ (by intro x m hf K hK; simpa using hK) (by simp; omega) ?_
    · intro x m K hK
      obtain ⟨h0, h1⟩ := hr x m
      have h0' : ¬ x < 0 := by omega
      have h1' : ¬ most ≤ x := by omega
      simp [h0', h1'] at hK ⊢
      exact hK
    · rw [List.filter_eq_nil_iff.mpr (fun _ _ => by decide)]
      rw [List.nil_append, eq_ints0]
      exact hR
  by_cases h : many < 0
  · have h' : ¬ 0 ≤ many := by omega
    simp [h']
    exact fun _ => key
  · have h2 := hm.resolve_left h
    have h' : 0 ≤ many := by omega
    simp [h', h2]
    rw [h2] at key
    exact ⟨key, fun _ => key⟩
theorem h__law_alike (m : Nat) : ∀ ds R, ds.length = 2 → S__law_alike (m + 1) ds R → W__law_alike m (st0 1 ds) { nx := fun _ => R (.dat .none), rt := fun o _ => R o } := by
  rintro ds R hl ⟨d, rfl, hok, hR⟩
  cases d with
  | none =>
    simp [W__law_alike, PyData.isTuple]
    exact hR
  | bool b =>
    simp [W__law_alike, PyData.isTuple, PyData.isBool]
    refine ⟨⟨⟨rfl, by simp [PyData.depth]⟩, ⟨rfl, by simp [PyData.depth]⟩⟩, ?_⟩
    rw [show PyData.eqv (.bool b) (.bool b) = true by simp [PyData.eqv]]
    exact hR
  | int i =>
    simp [W__law_alike]
    exact hR
  | str x =>
    simp [W__law_alike, PyData.isTuple, PyData.isBool, PyData.isInt, PyData.isStr]
    exact hR
  | list xs => exact hok.elim
  | dict xs => exact hok.elim
  | tuple xs =>
    obtain ⟨hz, hx⟩ := hok
    simp [W__law_alike]
    refine ⟨by omega, ?_⟩
    refine cL_q (fun k : Nat => PyData.int (0 + k)) (xs := List.range xs.length) (fun k => [some (.dat (.tuple xs)), some (.dat (.tuple xs)), some (.dat (.int (0 + k)))]) (fun k => false) (fun k => PyData.int k) [] (by intro x m K hK; simpa using hK) (by intro x m; simp) ?_ (by intro x m hf K hK; simpa using hK) (by simp; omega) ?_
    · intro k mk K hK
      have hk : k < xs.length := by simpa using mk
      simp [hk] at hK ⊢
      refine ⟨xs[k], rfl, hx _ (List.getElem_mem hk), ?_⟩
      simpa using hK
    · rw [List.filter_eq_nil_iff.mpr (fun _ _ => by decide)]
      rw [List.nil_append]
      show dEq (.list (([] : List Int).map .int)) (.list []) _
      rw [eq_ints0]
      exact hR
theorem ok_s {x : Str} {m : Nat} : okA (m + 1) (.str x) := trivial
theorem ok_b {x : Bool} {m : Nat} : okA (m + 1) (.bool x) := trivial
theorem ok_sts {xs : List Str} {m : Nat} (h : xs.length ≤ 1000) : okA (m + 2) (sts xs) := ⟨by simpa using h, fun d md => by
  obtain ⟨x, _, rfl⟩ := List.mem_map.mp md
  trivial⟩
theorem alike_call {d : PD} {R : O → Prop} (h : okA 5 d) (hR : R (.dat (.bool true))) : S__law_alike 5 [d, d] R := ⟨d, rfl, h, hR⟩
theorem leads_in {dps : List Dep} {dep : Dep} {st : List Int} (h : leadsB dps dep st = true) : ∀ k ∈ st, 0 ≤ k ∧ k < dps.length := by
  unfold leadsB at h
  cases hr : runS dps dep.1 st with
  | none => rw [hr] at h; simp at h
  | some had => exact fun k m => let q := (runS_inv hr fun x m => Led.base m).2.2 k m; ⟨q.1, q.2.1⟩
theorem h__law_is_told : ∀ ds R, ds.length = 3 → S__law_is_told ds R → W__law_is_told (st0 3 ds) { nx := fun _ => R (.dat .none), rt := fun o _ => R o } := by
  classical
  rintro ds R hl ⟨dps, dep, told, rfl, w, c1, c2, hcase, hR⟩
  have s2 := w.len
  rcases hcase with ⟨ha, st, hst, hz, rfl⟩ | ⟨ha, one, other, h1, h2, hb, hbr, rfl⟩
  · simp [W__law_is_told]
    refine ⟨dps, dep, rfl, w, c1, c2, ?_⟩
    simp [ha]
    refine alike_call ok_s ?_
    simp
    refine ⟨st, -1, _, rfl, by omega, .inl (by decide), fun x m => ?_, ?_⟩
    · obtain ⟨q1, q2⟩ := leads_in hst x m
      refine ⟨q1, ?_⟩
      split <;> omega
    · simp
      refine ⟨dps, dep, st, rfl, w, c1, c2, by omega, ?_⟩
      rw [hst]
      exact hR
  · simp [W__law_is_told]
    refine ⟨dps, dep, rfl, w, c1, c2, ?_⟩
    simp [ha]
    refine alike_call ok_s ?_
    simp
    refine ⟨dps, dep, rfl, w, c1, c2, ?_⟩
    simp
    have lc := allC_len (dps ++ [dep])
    refine ⟨one, _, 2, rfl, by omega, .inr (by rw [h1]), fun x m => hb x (List.mem_append_left _ m), ?_⟩
    simp
    refine ⟨other, _, 2, rfl, by omega, .inr (by rw [h2]), fun x m => hb x (List.mem_append_right _ m), ?_⟩
    simp
    refine ⟨dps, dep, one, other, rfl, w, c1, c2, h1, h2, ?_⟩
    rw [hbr]
    exact hR
end K60
set_option Elab.async false
set_option linter.all false
set_option maxRecDepth 100000
set_option maxHeartbeats 400000
namespace K60
open PySem L3
/-! ## draws -/
theorem k_ne : ¬ (PyData.str "draws" = PyData.str "at") := by decide +kernel
theorem k_ne2 : ¬ (PyData.str "at" = PyData.str "draws") := by decide +kernel
section
variable {x y z : PD}
@[simp] theorem lk_at : lookD [(PyData.str "draws", x), (PyData.str "at", y)] (.str "at") = some y := by rw [lookD_cons, if_neg k_ne, lookD_cons, if_pos rfl]
@[simp] theorem lk_dr : lookD [(PyData.str "draws", x), (PyData.str "at", y)] (.str "draws") = some x := by rw [lookD_cons, if_pos rfl]
@[simp] theorem pt_at : putD [(PyData.str "draws", x), (PyData.str "at", y)] (.str "at") z = [(PyData.str "draws", x), (PyData.str "at", z)] := by
  have k : ¬ (("draws" : Str) = "at") := by decide +kernel
  simp [putD, k]
@[simp] theorem ko_at : keyOk [(PyData.str "draws", x), (PyData.str "at", y)] (.str "at") = true := rfl
@[simp] theorem ko_dr : keyOk [(PyData.str "draws", x), (PyData.str "at", y)] (.str "draws") = true := rfl
@[simp] theorem atom_s {t : Str} : atomD (.str t) = true := rfl
end
theorem h__law_next : ∀ o ds R, ds.length = 1 → S__law_next o ds R → W__law_next (some o :: st0 0 ds) { nx := fun Γ => atS 0 Γ fun o' => R (.dat .none) o', rt := fun ro Γ => atS 0 Γ fun o' => R ro o' } := by
  rintro o ds R hl ⟨dr, a, m, rfl, rfl, hd, hm, hR⟩
  have ha := hd.at0
  simp [W__law_next, wD]
  by_cases h : (dr.length : Int) < a + 1
  · simp [h]
    exact hR 0 (a + 1) ⟨hd.len, by omega⟩ (by omega) hm
  · obtain ⟨n, rfl⟩ : ∃ n : Nat, a = n := ⟨a.toNat, by omega⟩
    have hn : n < dr.length := by omega
    simp [h]
    have e : ((n : Int) + 1 - 1) = (n : Int) := by omega
    simp [hn, hm]
    exact hR _ ((n : Int) + 1) ⟨hd.len, by omega⟩ (Int.emod_nonneg _ (by omega)) (Int.emod_lt_of_pos _ hm)
theorem h__law_pick : ∀ o ds R, ds.length = 1 → S__law_pick o ds R → W__law_pick (some o :: st0 0 ds) { nx := fun Γ => atS 0 Γ fun o' => R (.dat .none) o', rt := fun ro Γ => atS 0 Γ fun o' => R ro o' } := by
  rintro o ds R hl ⟨dr, a, xs, rfl, rfl, hd, hm, hR⟩
  simp [W__law_pick]
  refine ⟨dr, a, _, rfl, rfl, hd, by omega, fun r a' hd' h0 h1 => ?_⟩
  obtain ⟨n, rfl⟩ : ∃ n : Nat, r = n := ⟨r.toNat, by omega⟩
  have hn : n < xs.length := by omega
  simp [hn]
  exact hR _ a' hd' (List.getElem_mem hn)
theorem next_call {dr : List Int} {a m : Int} {R : O → O → Prop} (hd : Drs dr a) (hm : 0 < m) (h : ∀ r a' : Int, Drs dr a' → 0 ≤ r → r < m → R (.dat (.int r)) (wD dr a')) : S__law_next (wD dr a) [.int m] R := ⟨dr, a, m, rfl, rfl, hd, hm, h⟩
theorem h__law_some : ∀ o ds R, ds.length = 2 → S__law_some o ds R → W__law_some (some o :: st0 3 ds) { nx := fun Γ => atS 0 Γ fun o' => R (.dat .none) o', rt := fun ro Γ => atS 0 Γ fun o' => R ro o' } := by
  rintro o ds R hl ⟨dr, a, m, cols, rfl, rfl, hd, h0, h10, hc, hpos, hR⟩
  have lc := hc.len
  simp [W__law_some]
  refine ⟨⟨by omega, by omega⟩, ?_⟩
  refine for_ty (fun k : Nat => PyData.int (0 + k)) (xs := List.range m.toNat) (fun i Γ => ∃ a fd v4, Γ = [some (wD dr a), some (.dat (sts cols)), some (.dat (.int m)), some (.lst (fd.map .str)), v4, none] ∧ Drs dr a ∧ fd.length ≤ i) ⟨a, [], none, rfl, hd, Nat.le_refl _⟩ ?_ ?_
  · rintro i k Γ K ek ⟨a, fd, v4, rfl, hd, hle⟩ hK
    have hi := (List.getElem?_eq_some_iff.mp ek).1
    rw [List.length_range] at hi
    simp
    refine ⟨dr, a, cols.map .str, rfl, rfl, hd, by simpa using hpos, fun x a' hd' hx => ?_⟩
    obtain ⟨y, hy, rfl⟩ := List.mem_map.mp hx
    simp
    exact ⟨by omega, hK _ ⟨a', fd ++ [y], _, by rw [List.map_append]; rfl, hd', by rw [List.length_append, List.length_singleton]; omega⟩⟩
  · rintro Γ ⟨a, fd, v4, rfl, hd, hle⟩
    simp
    refine cL_q PyData.str (fun x => [some (wD dr a), some (.dat (sts cols)), some (.dat (.int m)), some (.lst (fd.map .str)), v4, some (.dat (.str x))]) (fun x => decide (x ∈ fd)) PyData.str [] (by intro x m K hK; simpa using hK) (by intro x m; simp) (by intro x m K hK; simpa using hK) (by intro x m hf K hK; simpa using hK) (by simp; omega) ?_
    simp
    exact hR _ a hd ⟨hc.nd.sublist List.filter_sublist, fun x mx => hc.sub x (List.mem_filter.mp mx).1⟩
theorem some_call {dr : List Int} {a m : Int} {cols : List Str} {R : O → O → Prop} (hd : Drs dr a) (h0 : 0 ≤ m) (h1 : m ≤ 10) (hc : Cols cols) (hp : 0 < cols.length) (h : ∀ (xs : List Str) (a' : Int), Drs dr a' → Cols xs → R (.dat (sts xs)) (wD dr a')) : S__law_some (wD dr a) [sts cols, .int m] R := ⟨dr, a, m, cols, rfl, rfl, hd, h0, h1, hc, hp, h⟩
theorem h__law_deps : ∀ o ds R, ds.length = 2 → S__law_deps o ds R → W__law_deps (some o :: st0 3 ds) { nx := fun Γ => atS 0 Γ fun o' => R (.dat .none) o', rt := fun ro Γ => atS 0 Γ fun o' => R ro o' } := by
  rintro o ds R hl ⟨dr, a, m, cols, rfl, rfl, hd, h0, h3, hc, hpos, hR⟩
  have lc := hc.len
  simp [W__law_deps]
  refine next_call hd (by decide) fun r a hd r0 r7 => ?_
  simp
  refine ⟨⟨by omega, by omega⟩, ?_⟩
  refine for_ty (fun k : Nat => PyData.int (0 + k)) (xs := List.range r.toNat) (fun i Γ => ∃ a dps v4 v5, Γ = [some (wD dr a), some (.dat (sts cols)), some (.dat (.int m)), some (.lst (dps.map depD)), v4, v5] ∧ Drs dr a ∧ dps.length ≤ i ∧ ∀ d ∈ dps, Cols d.1 ∧ Cols d.2) ⟨a, [], none, none, rfl, hd, Nat.le_refl _, fun _ m => nomatch m⟩ ?_ ?_
  · rintro i k Γ K ek ⟨a, dps, v4, v5, rfl, hd, hle, hw⟩ hK
    have hi := (List.getElem?_eq_some_iff.mp ek).1
    rw [List.length_range] at hi
    simp
    refine next_call hd (by omega) fun r1 a hd r10 r11 => ?_
    simp
    refine some_call hd (by omega) (by omega) hc hpos fun xs a hd hx => ?_
    simp
    refine next_call hd (by omega) fun r2 a hd r20 r21 => ?_
    simp
    refine some_call hd (by omega) (by omega) hc hpos fun ys a hd hy => ?_
    simp
    refine ⟨by omega, hK _ ⟨a, dps ++ [(xs, ys)], _, _, by rw [List.map_append]; rfl, hd, by rw [List.length_append, List.length_singleton]; omega, fun d md => ?_⟩⟩
    rcases List.mem_append.mp md with md | md
    · exact hw d md
    · obtain rfl : d = (xs, ys) := by simpa using md
      exact ⟨hx, hy⟩
  · rintro Γ ⟨a, dps, v4, v5, rfl, hd, hle, hw⟩
    rw [List.length_range] at hle
    simp
    exact hR dps a hd ⟨by omega, hw⟩
/-! ## the draws of a script -/
theorem cut_len {l : List Int} {m : Nat} : ∃ dr : List Int, cutD (l.map PyData.int) none (some (m : Int)) = dr.map .int ∧ dr.length ≤ m := by
  unfold cutD
  rw [HT.sIx_none, HT.sIx_nat, List.drop_zero, Nat.sub_zero]
  refine ⟨l.take (min m (l.map PyData.int).length), by rw [List.map_take], ?_⟩
  rw [List.length_take]; omega
theorem mulL {i j : Int} (h : -(2 ^ 64) < j ∧ j < 2 ^ 64) : L2.CMul i j ∨ L2.CMulW i j := .inl (.inr h)
theorem draws_tail {D : DE} {ns l : List Int} {L : List PD} (hL : L = l.map .int) {mx k rest : Int} {v5 v7 : Option O} {b : WS} (hb : b = sIf (upT (wB (w2 dGt (wDat 6) (wC (PyData.int 0)))))
      (sSeq (sEx (wOwn "list" 2 fApp (wConsE (up (w2 dMod (wn dInt (wCons (wDat 6) wNil)) (wC (PyData.int 997)))) wNilE)))
        (sSet 6 (up (w2 dFDiv (wDat 6) (wC (PyData.int 997)))))) sNx) (hl : l.length ≤ 10000)
    (h : ∀ (l' : List Int) (rest' : Int) (v7' : Option O), l'.length ≤ l.length + 60 → D.nx [some (.scr ns), some (.dat (.int 900)), some (.lst (l'.map .int)), some (.dat (.int mx)), some (.dat (.int k)), v5, some (.dat (.int rest')), v7']) :
    sForL (gD 7) b (rngD 0 60) [some (.scr ns), some (.dat (.int 900)), some (.lst L), some (.dat (.int mx)), some (.dat (.int k)), v5, some (.dat (.int rest)), v7] D := by
  subst hb hL
  refine for_ty (fun k : Nat => PyData.int (0 + k)) (xs := List.range 60) (fun i Γ => ∃ (l' : List Int) (rest' : Int) (v7' : Option O), Γ = [some (.scr ns), some (.dat (.int 900)), some (.lst (l'.map .int)), some (.dat (.int mx)), some (.dat (.int k)), v5, some (.dat (.int rest')), v7'] ∧ l'.length ≤ l.length + i) ⟨l, rest, v7, rfl, Nat.le_refl _⟩ ?_ ?_
  · rintro i x Γ K ek ⟨l', rest', v7', rfl, hle⟩ hK
    have hi := (List.getElem?_eq_some_iff.mp ek).1
    rw [List.length_range] at hi
    by_cases h0 : 0 < rest'
    · simp [h0]
      refine ⟨by omega, ⟨by decide, by decide⟩, hK _ ⟨l' ++ [_], _, _, by rw [List.map_append]; rfl, by rw [List.length_append, List.length_singleton]; omega⟩⟩
    · simp [h0]
      exact hK _ ⟨l', rest', _, rfl, by omega⟩
  · rintro Γ ⟨l', rest', v7', rfl, hle⟩
    rw [List.length_range] at hle
    exact h l' rest' v7' hle
theorem h__law_draws : ∀ o ds R, ds.length = 1 → S__law_draws o ds R → W__law_draws (some o :: st0 6 ds) { nx := fun Γ => atS 0 Γ fun o' => R (.dat .none) o', rt := fun ro Γ => atS 0 Γ fun o' => R ro o' } := by
  rintro o ds R hl ⟨ns, rfl, rfl, hz, hR⟩
  simp [W__law_draws]
  refine ⟨by omega, ?_⟩
  refine for_ty (fun k : Nat => PyData.int (0 + k)) (xs := List.range ns.length) (fun i Γ => ∃ (l : List Int) (mx : Int) (v4 v5 v6 v7 : Option O), Γ = [some (.scr ns), some (.dat (.int 900)), some (.lst (l.map .int)), some (.dat (.int mx)), v4, v5, v6, v7] ∧ l.length ≤ 62 * i) ⟨[], 7, none, none, none, none, rfl, Nat.le_refl _⟩ ?_ ?_
  · rintro i k Γ K ek ⟨l, mx, v4, v5, v6, v7, rfl, hle⟩ hK
    have hi : i < ns.length := by
      have := (List.getElem?_eq_some_iff.mp ek).1
      simpa using this
    obtain rfl : k = i := by simpa [hi] using ek.symm
    simp [hi]
    refine ⟨mulL (by decide), ⟨by decide, by decide, by decide⟩, ?_⟩
    generalize (if ns[k] < 0 then -ns[k] else ns[k]) = cell
    split
    · exact draws_tail (l := l) rfl rfl (by omega) fun l' rest' v7' h => hK _ ⟨l', _, _, _, _, _, rfl, by omega⟩
    · refine ⟨by omega, mulL (by decide), by omega, ?_⟩
      generalize (mx * 48271 + cell % 1000003 + (k : Int)) % 65537 = mx2
      generalize (mx2 * 69621 + 5) % 65521 % 997 = x2
      generalize cell % 997 = x1
      have hL : l.map PyData.int ++ [PyData.int x1, PyData.int x2] = (l ++ [x1, x2]).map PyData.int := by rw [List.map_append]; rfl
      have hl2 : (l ++ [x1, x2]).length = l.length + 2 := by rw [List.length_append]; rfl
      generalize l ++ [x1, x2] = l2 at hL hl2
      rw [hL]
      have T := fun (D : DE) => @draws_tail D ns l2 (l2.map .int) rfl mx2 (k : Int) 0 (some (.dat (.int cell))) v7 _ rfl (by omega)
      with_reducible refine T _ ?_
      intro l' rest' v7' h
      exact hK _ ⟨l', _, _, _, _, _, rfl, by omega⟩
  · rintro Γ ⟨l, mx, v4, v5, v6, v7, rfl, hle⟩
    rw [List.length_range] at hle
    simp
    refine for_ty (fun k : Nat => PyData.int (0 + k)) (xs := List.range 900) (fun i Γ => ∃ (l : List Int) (mx : Int) (v4 v5 v6 v7 : Option O), Γ = [some (.scr ns), some (.dat (.int 900)), some (.lst (l.map .int)), some (.dat (.int mx)), v4, v5, v6, v7] ∧ l.length ≤ 62 * 63 + i) ⟨l, mx, v4, v5, v6, v7, rfl, by omega⟩ ?_ ?_
    · rintro i k Γ K ek ⟨l, mx, v4, v5, v6, v7, rfl, hle⟩ hK
      have hi := (List.getElem?_eq_some_iff.mp ek).1
      rw [List.length_range] at hi
      simp
      refine ⟨mulL (by decide), by omega, hK _ ⟨l ++ [_], _, _, _, _, _, by rw [List.map_append]; rfl, by rw [List.length_append, List.length_singleton]; omega⟩⟩
    · rintro Γ ⟨l, mx, v4, v5, v6, v7, rfl, hle⟩
      simp
      obtain ⟨dr, e, hl⟩ := @cut_len l 900
      have e2 : cutD (l.map PyData.int) none (some 900) = dr.map .int := e
      rw [e2]
      exact hR dr hl
end K60
set_option Elab.async false
set_option linter.all false
set_option maxRecDepth 100000
set_option maxHeartbeats 1000000
namespace K60
open PySem L3
/-! ## the law -/
theorem cL_eff {α : Type} (φ : α → PyData) (I : Gm → Prop) (Pel : PyData → Prop) {xs : List α} {vs : List Nat} {g : WG} {we : WE} {Γ : Gm} {Q : List PyData → Gm → Prop} (hz : xs.length ≤ 1000)
    (hs : ∀ x ∈ xs, ∀ (Γ : Gm) (K : PyData → Gm → Prop), I Γ → (∀ y Γ3, Pel y → I (wipeG Γ3 vs) → K y Γ3) → g (φ x) Γ fun Γ1 => we Γ1 K) (h0 : I Γ) (hQ : ∀ ys Γ, (∀ y ∈ ys, Pel y) → ys.length = xs.length → I Γ → Q ys Γ) : cL vs g wYes we (xs.map φ) [] Γ Q := by
  have key : ∀ (xs' : List α) (acc : List PyData) (Γ : Gm), (∀ x ∈ xs', x ∈ xs) → acc.length + xs'.length = xs.length → (∀ y ∈ acc, Pel y) → I Γ → cL vs g wYes we (xs'.map φ) acc Γ Q := by
    intro xs'
    induction xs' with
    | nil => exact fun acc Γ _ hl ha hI => hQ acc Γ ha (by simpa using hl) hI
    | cons x r ih =>
      intro acc Γ hm hl ha hI
      rw [List.length_cons] at hl
      rw [List.map_cons]
      unfold cL wYes
      simp only [if_true]
      refine hs x (hm x (by simp)) Γ _ hI fun y Γ3 hy hI3 => ⟨by rw [sz]; omega, ?_⟩
      refine ih (acc ++ [y]) _ (fun z mz => hm z (List.mem_cons_of_mem _ mz)) (by rw [List.length_append, List.length_singleton]; omega) (fun z mz => ?_) hI3
      rcases List.mem_append.mp mz with mz | mz
      · exact ha z mz
      · obtain rfl : z = y := by simpa using mz
        exact hy
  exact key xs [] Γ (fun _ m => m) (by simp) (fun _ m => nomatch m) h0
theorem ints_ex : ∀ {ys : List PD}, (∀ y ∈ ys, ∃ k : Int, y = .int k) → ∃ ks : List Int, ys = ks.map .int
  | [], _ => ⟨[], rfl⟩
  | y :: ys, h => by
    obtain ⟨k, rfl⟩ := h y (by simp)
    obtain ⟨ks, rfl⟩ := ints_ex (ys := ys) fun z m => h z (List.mem_cons_of_mem _ m)
    exact ⟨k :: ks, rfl⟩
def ToldOk (dps : List Dep) (dep : Dep) (told : PD) : Prop :=
  (AllLed dps dep ∧ ∃ st : List Int, leadsB dps dep st = true ∧ st.length ≤ 6 ∧ told = .tuple [.str "yes", nums st]) ∨
   (¬ AllLed dps dep ∧ ∃ one other : List Int, one.length = (allC (dps ++ [dep])).length ∧ other.length = (allC (dps ++ [dep])).length ∧ (∀ b ∈ one ++ other, 0 ≤ b ∧ b < 2) ∧ breakB dps dep one other = true ∧ told = .tuple [.str "no", .tuple [nums one, nums other]])
theorem follows_call {dps : List Dep} {l r : List Str} {R : O → Prop} (w : Wf dps) (c1 : Cols l) (c2 : Cols r) (h : ∀ told, ToldOk dps (l, r) told → R (.dat told)) : S_follows [depsD dps, .tuple [sts l, sts r]] R :=
  ⟨dps, (l, r), rfl, w, c1, c2, fun ha st hs hz => h _ (.inl ⟨ha, st, hs, hz, rfl⟩), fun ha one other h1 h2 hb hbr => h _ (.inr ⟨ha, one, other, h1, h2, hb, hbr, rfl⟩)⟩
@[simp] theorem disp_w {x y : PD} : dispD [(PyData.str "draws", x), (PyData.str "at", y)] = [(PyData.str "draws", x), (PyData.str "at", y)] := by
  have k : ¬ (("draws" : Str) = "at") := by decide +kernel
  simp [dispD, putD, k]
theorem cut_strs {xs : List Str} {n : Nat} : cutD (xs.map PyData.str) none (some (n : Int)) = (xs.take n).map .str := by
  unfold cutD
  rw [HT.sIx_none, HT.sIx_nat, List.drop_zero, Nat.sub_zero, List.length_map, ← List.map_take]
  congr 1
  rw [List.take_eq_take_iff]
  omega
/-- the state within the law's inner loop -/
abbrev G1 (ns dr : List Int) (a t : Int) (cols : List Str) (dps : List Dep) (cs l r : List Str) (told : PD) (many : Int) (v9 v10 v11 v12 : Option O) : Gm :=
  [some (.scr ns), some (wD dr a), some (.dat (.int t)), some (.dat (sts cols)), some (.dat (depsD dps)), some (.dat (sts cs)), some (.dat (.tuple [sts l, sts r])), some (.dat told), some (.dat (.int many)), v9, v10, v11, v12, none, none]
theorem er_wD {dr : List Int} {a : Int} : er1 (some (wD dr a)) = none := rfl
section
variable {ns dr : List Int} {a t many : Int} {cols cs l r : List Str} {dps : List Dep} {told : PD} {v9 v10 v11 v12 : Option O} {D : DE}
theorem h_t2 {one other : List Int} (w : Wf dps) (cl : Cols l) (cr : Cols r) (h1 : one.length = (allC (dps ++ [(l, r)])).length) (h2 : other.length = (allC (dps ++ [(l, r)])).length)
    (h : D.nx (G1 ns dr a t cols dps cs l r told many v9 v10 (some (.dat (nums one))) (some (.dat (nums other))))) : W_law_t2 (G1 ns dr a t cols dps cs l r told many v9 v10 (some (.dat (nums one))) (some (.dat (nums other)))) D := by
  simp [W_law_t2, er_wD]
  refine ⟨dps, (l, r), one, other, rfl, w, cl, cr, h1, h2, ?_⟩
  simp
  refine ⟨dps, (l, r), one, other, rfl, w, cl, cr, h1, h2, ?_⟩
  simp
  refine alike_call ok_b ?_
  simp
  exact h
theorem h_t1 {steps : List Int} (w : Wf dps) (cl : Cols l) (cr : Cols r) (hs : steps.length ≤ 100) (hd : Drs dr a) (htold : ToldOk dps (l, r) told) (hmany : many = (allC (dps ++ [(l, r)])).length)
    (h : ∀ (a : Int) (v9 v10 v11 v12 : Option O), Drs dr a → D.nx (G1 ns dr a t cols dps cs l r told many v9 v10 v11 v12)) : W_law_t1 (G1 ns dr a t cols dps cs l r told many v9 (some (.dat (nums steps))) v11 v12) D := by
  classical
  have lm := allC_len (dps ++ [(l, r)])
  subst hmany
  simp [W_law_t1, er_wD]
  refine ⟨dps, (l, r), steps, rfl, w, cl, cr, hs, ?_⟩
  simp
  refine ⟨dps, (l, r), steps, rfl, w, cl, cr, hs, ?_⟩
  simp
  refine alike_call ok_b ?_
  simp
  refine ⟨by omega, ?_⟩
  refine cL_eff (fun k : Nat => PyData.int (0 + k)) (xs := List.range (allC (dps ++ [(l, r)])).length) (fun Γ => ∃ a, Γ = G1 ns dr a t cols dps cs l r told (allC (dps ++ [(l, r)])).length v9 (some (.dat (nums steps))) v11 v12 ∧ Drs dr a) (fun y => ∃ z : Int, y = .int z) (by rw [List.length_range]; omega) ?_ ⟨a, rfl, hd⟩ ?_
  · rintro x mx Γ K ⟨a, rfl, hd⟩ hK
    simp
    refine next_call hd (by decide) fun r1 a hd h0 h1 => ?_
    simp
    exact hK _ _ ⟨r1, rfl⟩ ⟨a, rfl, hd⟩
  rintro ys Γ hy hly ⟨a, rfl, hd⟩
  obtain ⟨ones, rfl⟩ := ints_ex hy
  rw [List.length_map, List.length_range] at hly
  simp
  refine cL_eff PyData.int (xs := ones) (fun Γ => ∃ a, Γ = G1 ns dr a t cols dps cs l r told (allC (dps ++ [(l, r)])).length v9 (some (.dat (nums steps))) (some (.dat (nums ones))) v12 ∧ Drs dr a) (fun y => ∃ z : Int, y = .int z) (by omega) ?_ ⟨a, rfl, hd⟩ ?_
  · rintro x mx Γ K ⟨a, rfl, hd⟩ hK
    simp
    refine next_call hd (by decide) fun r1 a hd h0 h1 => ?_
    by_cases hr : 0 < r1
    · simp [hr]
      exact hK _ _ ⟨_, rfl⟩ ⟨a, rfl, hd⟩
    · simp [hr]
      exact hK _ _ ⟨_, rfl⟩ ⟨a, rfl, hd⟩
  rintro ys Γ hy hly2 ⟨a, rfl, hd⟩
  obtain ⟨others, rfl⟩ := ints_ex hy
  rw [List.length_map] at hly2
  simp [er_wD]
  refine ⟨dps, (l, r), rfl, w, cl, cr, ?_⟩
  by_cases ha : AllLed dps (l, r)
  · simp [ha]
    exact h_t2 w cl cr hly (by omega) (h _ _ _ _ _ hd)
  · simp [ha]
    refine next_call hd (by decide) fun r1 a hd h0 h1 => ?_
    obtain ⟨one, other, e1, e2, e3, e4, rfl⟩ := (htold.resolve_left fun q => ha q.1).2
    by_cases hr : r1 = 0
    · simp [hr]
      exact h_t2 w cl cr e1 e2 (h _ _ _ _ _ hd)
    · simp [hr]
      exact h_t2 w cl cr hly (by omega) (h _ _ _ _ _ hd)
end
theorem h_law : ∀ o ds R, ds.length = 0 → S_law o ds R → W_law (some o :: st0 14 ds) { nx := fun Γ => atS 0 Γ fun o' => R (.dat .none) o', rt := fun ro Γ => atS 0 Γ fun o' => R ro o' } := by
  classical
  rintro o ds R hl ⟨ns, rfl, rfl, hz, hR⟩
  simp [W_law]
  refine ⟨ns, rfl, rfl, hz, fun dr hdr => ?_⟩
  simp
  refine for_ty (fun k : Nat => PyData.int (0 + k)) (xs := List.range 5) (fun i Γ => ∃ a v2 v3 v4 v5 v6 v7 v8 v9 v10 v11 v12, Γ = [some (.scr ns), some (wD dr a), v2, v3, v4, v5, v6, v7, v8, v9, v10, v11, v12, none, none] ∧ Drs dr a) ⟨0, _, _, _, _, _, _, _, _, _, _, _, rfl, hdr, by omega⟩ ?_ ?_
  · rintro i t Γ K et ⟨a, v2, v3, v4, v5, v6, v7, v8, v9, v10, v11, v12, rfl, hd⟩ hK
    simp
    refine next_call hd (by decide) fun r a hd r0 r4 => ?_
    obtain ⟨n, rfl⟩ : ∃ n : Nat, r = n := ⟨r.toNat, by omega⟩
    simp
    have ecut : cutD [PyData.str "a", PyData.str "b", PyData.str "c1", PyData.str "d_", PyData.str "e", PyData.str "f"] none (some (2 + (n : Int))) = (LET.take (2 + n)).map .str := @cut_strs LET (2 + n)
    rw [ecut]
    have hc0 : Cols (LET.take (2 + n)) := ⟨LET_nd.sublist (List.take_sublist _ _), fun x m => List.mem_of_mem_take m⟩
    have hp0 : 0 < (LET.take (2 + n)).length := by rw [List.length_take, show LET.length = 6 from rfl]; omega
    generalize LET.take (2 + n) = cols at hc0 hp0
    simp
    refine ⟨dr, a, 0, cols, rfl, rfl, hd, by decide, by decide, hc0, hp0, fun dps a hd w => ?_⟩
    simp
    refine some_call hd (by decide) (by decide) hc0 hp0 fun cs a hd c => ?_
    simp
    refine ⟨dps, cs, rfl, w, c, ?_⟩
    simp
    refine ⟨dps, cs, rfl, w, c, ?_⟩
    simp
    refine alike_call (ok_sts (by have := (ledL_cols dps cs).len; omega)) ?_
    simp
    refine some_call hd (by decide) (by decide) hc0 hp0 fun l a hd cl => ?_
    simp
    refine some_call hd (by decide) (by decide) hc0 hp0 fun r a hd cr => ?_
    simp
    refine follows_call w cl cr fun told htold => ?_
    simp
    refine ⟨dps, (l, r), told, rfl, w, cl, cr, htold, ?_⟩
    simp
    refine ⟨dps, (l, r), rfl, w, cl, cr, ?_⟩
    simp
    have lm := allC_len (dps ++ [(l, r)])
    have sd := w.len
    refine for_ty (fun k : Nat => PyData.int (0 + k)) (xs := List.range 4) (fun i Γ => ∃ a v9 v10 v11 v12, Γ = [some (.scr ns), some (wD dr a), some (.dat (.int t)), some (.dat (sts cols)), some (.dat (depsD dps)), some (.dat (sts cs)), some (.dat (.tuple [sts l, sts r])), some (.dat told), some (.dat (.int (allC (dps ++ [(l, r)])).length)), v9, v10, v11, v12, none, none] ∧ Drs dr a) ⟨a, _, _, _, _, rfl, hd⟩ ?_ ?_
    · rintro i k Γ K ek ⟨a, v9, v10, v11, v12, rfl, hd⟩ hK
      simp
      refine next_call hd (by decide) fun q a hd q0 q5 => ?_
      simp
      refine ⟨⟨by omega, by omega⟩, ?_⟩
      refine cL_eff (fun k : Nat => PyData.int (0 + k)) (xs := List.range q.toNat) (fun Γ => ∃ a, Γ = G1 ns dr a t cols dps cs l r told (allC (dps ++ [(l, r)])).length (some (.dat (.int k))) v10 v11 v12 ∧ Drs dr a) (fun y => ∃ z : Int, y = .int z) (by rw [List.length_range]; omega) ?_ ⟨a, rfl, hd⟩ ?_
      · rintro x mx Γ K ⟨a, rfl, hd⟩ hK
        simp
        refine next_call hd (by omega) fun r1 a hd h0 h1 => ?_
        simp
        refine next_call hd (by decide) fun r2 a hd h0 h1 => ?_
        by_cases hr : r2 = 0
        · simp [hr]
          exact hK _ _ ⟨_, rfl⟩ ⟨a, rfl, hd⟩
        · simp [hr]
          exact hK _ _ ⟨_, rfl⟩ ⟨a, rfl, hd⟩
      rintro ys Γ hy hly ⟨a, rfl, hd⟩
      obtain ⟨ks, rfl⟩ := ints_ex hy
      rw [List.length_map, List.length_range] at hly
      have hk4 : ks.length ≤ 4 := by omega
      simp [er_wD]
      refine ⟨dps, (l, r), rfl, w, cl, cr, ?_⟩
      have fin : ∀ (a : Int) (v9 v10 v11 v12 : Option O), Drs dr a → K (G1 ns dr a t cols dps cs l r told (allC (dps ++ [(l, r)])).length v9 v10 v11 v12) := fun a v9 v10 v11 v12 hd => hK _ ⟨a, v9, v10, v11, v12, rfl, hd⟩
      by_cases ha : AllLed dps (l, r)
      · simp [ha]
        refine next_call hd (by decide) fun r1 a hd h0 h1 => ?_
        by_cases hr : r1 = 0
        · obtain ⟨st, hst, hsz, e⟩ := (htold.resolve_right fun q => q.1 ha).2
          subst e
          simp [hr]
          obtain ⟨cut, ec, hcl⟩ := @cut_len ks 1
          have ec' : cutD (ks.map PyData.int) none (some 1) = cut.map .int := ec
          show dSl (.tuple (ks.map .int)) none (some 1) _
          rw [sl_t, ec']
          simp
          refine ⟨by omega, ?_⟩
          exact h_t1 w cl cr (by rw [List.length_append]; omega) hd htold rfl fin
        · simp [hr]
          exact h_t1 w cl cr (by omega) hd htold rfl fin
      · simp [ha]
        exact h_t1 w cl cr (by omega) hd htold rfl fin
    · rintro Γ ⟨a, v9, v10, v11, v12, rfl, hd⟩
      exact hK _ ⟨a, _, _, _, _, _, _, _, _, _, _, _, rfl, hd⟩
  · rintro Γ ⟨a, v2, v3, v4, v5, v6, v7, v8, v9, v10, v11, v12, rfl, hd⟩
    simp
    exact hR
theorem none__law_alike {ds : List PD} {R : O → Prop} (h : S__law_alike 0 ds R) : False := by
  obtain ⟨d, _, h, _⟩ := h
  exact h
theorem top_law {ns : List Int} (h : ns.length ≤ 63) : S_law (.scr ns) [] fun ro _ => ro = .dat (.bool true) := ⟨ns, rfl, rfl, h, rfl⟩
end K60
set_option Elab.async false
set_option linter.all false
set_option maxRecDepth 100000
namespace K60
open PySem PySem.Spec PyProof.Rows L2 L3
def top (i : Nat) : Stmt := PySem.Challenge.pw_sameanswer_k60_what_follows_from_depende.main.body.getD i (.Pass ⟨0, 0, 0, 0⟩)
abbrev st_once : Stmt := top 1
abbrev st_closure : Stmt := top 3
abbrev st_columns_of : Stmt := top 4
abbrev st_has_all : Stmt := top 5
abbrev st_steps_to : Stmt := top 6
abbrev st_follows : Stmt := top 7
abbrev st_is_leading : Stmt := top 8
abbrev st_agrees : Stmt := top 9
abbrev st_keeps : Stmt := top 10
abbrev st_is_breaking : Stmt := top 11
abbrev st__law_draws : Stmt := top 13
abbrev st__law_next : Stmt := top 14
abbrev st__law_pick : Stmt := top 15
abbrev st__law_alike : Stmt := top 16
abbrev st__law_some : Stmt := top 17
abbrev st__law_deps : Stmt := top 18
abbrev st__law_closure : Stmt := top 19
abbrev st__law_holds : Stmt := top 20
abbrev st__law_columns : Stmt := top 21
abbrev st__law_leads : Stmt := top 22
abbrev st__law_agree : Stmt := top 23
abbrev st__law_breaks : Stmt := top 24
abbrev st__law_is_row : Stmt := top 25
abbrev st__law_is_told : Stmt := top 26
abbrev st_law : Stmt := top 27
structure Tx (mg : Str → Option Value) : Prop where
  tuple_ : mg "tuple" = none
  sorted_ : mg "sorted" = none
  sum_ : mg "sum" = none
  len_ : mg "len" = none
  range_ : mg "range" = none
  isinstance_ : mg "isinstance" = none
  bool_ : mg "bool" = none
  int_ : mg "int" = none
  abs_ : mg "abs" = none
  str_ : mg "str" = none
  list_ : mg "list" = none
  max_ : mg "max" = none
section
variable {P : Program} {w : World} {K : PySem.W.Frag} {mg : Str → Option Value} {base : Heap}
theorem sc_once : FnScope ["things", "found", "thing"] ["things"] (defScope st_once) := ⟨rfl, rfl, rfl, by decide +kernel, rfl, by decide +kernel, by decide +kernel⟩
theorem b_once (T : Tx mg) (f : Addr) (cdv : Value) (A : Around) (outer : List Env) (s : Shared) (H : Hp) (E : XK) (hr : Room 1 (A.deeper (envOfC "once" (defScope st_once) s.heap.objs.size f cdv))) :
    QSs (cxOf CX0 P w K mg base ["things", "found", "thing"] "once" (defScope st_once) f cdv A outer s H E).nox [] (defBody st_once) W_once :=
  (qss_cons (qs_setO (i := 1) sc_once.nd rfl (by first | exact Or.inl rfl | exact Or.inr rfl) qo_dic0)
  (qss_cons (qs_for PassesOwn.never rfl (qi_seq (qe (qf_name (pv 0)))) (qg_name (i := 2) sc_once.nd rfl (by first | exact Or.inl rfl | exact Or.inr rfl))
    (qss_one (qs_put hr.units (pv 1) (qe (qf_name (pv 2))) (qe qf_bl))))
  (qss_one (qs_ret (qe (qf_callTy (c_tuple rfl) m_tuple rfl T.tuple_ boot_tuple (qav_cons (qv_name (pv 1)) qav_nil)))))))
theorem sc_closure : FnScope ["deps", "columns", "found", "grown", "left", "right", "more", "column"] ["deps", "columns"] (defScope st_closure) := ⟨rfl, rfl, rfl, by decide +kernel, rfl, by decide +kernel, by decide +kernel⟩
theorem b_closure (T : Tx mg) (F_once : FnP P w K mg base "once" 2 ["things"] (spF ⟨P, w, K⟩ 1 (S_once))) (f : Addr) (cdv : Value) (A : Around) (outer : List Env) (s : Shared) (H : Hp) (E : XK) (hr : Room 3 (A.deeper (envOfC "closure" (defScope st_closure) s.heap.objs.size f cdv))) :
    QSs (cxOf CX0 P w K mg base ["deps", "columns", "found", "grown", "left", "right", "more", "column"] "closure" (defScope st_closure) f cdv A outer s H E).nox [] (defBody st_closure) W_closure :=
  (qss_cons (qs_set (i := 2) sc_closure.nd rfl (by first | exact Or.inl rfl | exact Or.inr rfl) (qe_fz (qo_call F_once (hr.mono (by decide)) rfl (qae_cons (qe (qf_name (pv 1))) qae_nil))))
  (qss_cons (qs_set (i := 3) sc_closure.nd rfl (by first | exact Or.inl rfl | exact Or.inr rfl) (qe qf_bl))
  (qss_cons (qs_while PassesOwn.never (qte (qt_val (qv (qf_name (pv 3)))))
    (qss_cons (qs_set (i := 3) sc_closure.nd rfl (by first | exact Or.inl rfl | exact Or.inr rfl) (qe qf_bl))
    (qss_one (qs_for PassesOwn.never rfl (qi_seq (qe (qf_name (pv 0)))) (qg_tup rfl (qgs_cons (qg_name (i := 4) sc_closure.nd rfl (by first | exact Or.inl rfl | exact Or.inr rfl)) (qgs_cons (qg_name (i := 5) sc_closure.nd rfl (by first | exact Or.inl rfl | exact Or.inr rfl)) qgs_nil)))
      (qss_cons (qs_setLcF (i := 6) (own := [("column", 7)]) rfl sc_closure.nd rfl rfl (sw_true rfl rfl rfl rfl) (qi_seq (qe (qf_name (pv 5)))) (blkOk_by rfl) (fun _ _ _ _ _ => (qg_name (i := 7) sc_closure.nd rfl (by first | exact Or.inl rfl | exact Or.inr rfl))) (fun _ _ _ _ _ => (qts_one (qte (qt_cmp (o_notIn hr.units) m_notIn (qv (qf_name (pv 7))) (qv (qf_name (pv 2))) (by with_unfolding_all rfl))))) (fun _ _ _ _ _ => (qe (qf_name (pv 7)))))
      (qss_one (qs_if (qte (qt_w (qw_and (qt_cmp (o_ne hr.units) m_ne (qv (qf_name (pv 6))) (qv (qf_lst qaf_nil)) (nomark _)) (qw_and1 (qt_cmp (o_eq hr.units) m_eq (qv (qf_dn (qe_fz (qo_lc (own := [("column", 7)]) rfl sc_closure.nd (qi_seq (qe (qf_name (pv 4)))) (blkOk_by rfl) (fun _ _ _ _ _ => (qg_name (i := 7) sc_closure.nd rfl (by first | exact Or.inl rfl | exact Or.inr rfl))) (fun _ _ _ _ _ => (qts_one (qte (qt_cmp (o_notIn hr.units) m_notIn (qv (qf_name (pv 7))) (qv (qf_name (pv 2))) (by with_unfolding_all rfl))))) (fun _ _ _ _ _ => (qe (qf_name (pv 7)))))))) (qv (qf_lst qaf_nil)) (nomark _))))))
        (qss_cons (qs_set (i := 2) sc_closure.nd rfl (by first | exact Or.inl rfl | exact Or.inr rfl) (qe (qf_op o_add m_add (qv (qf_name (pv 2))) (qv (qf_callTy (c_tuple rfl) m_tuple rfl T.tuple_ boot_tuple (qav_cons (qv (qf_name (pv 6))) qav_nil))))))
        (qss_one (qs_set (i := 3) sc_closure.nd rfl (by first | exact Or.inl rfl | exact Or.inr rfl) (qe qf_bl))))
        qss_nil)))))))
  (qss_one (qs_ret (qe (qf_callTy (c_tuple rfl) m_tuple rfl T.tuple_ boot_tuple (qav_cons (qv (qf_callB (c_sorted rfl hr.units) m_sorted rfl T.sorted_ boot_sorted (qav_cons (qv (qf_name (pv 2))) qav_nil))) qav_nil))))))))
theorem sc_columns_of : FnScope ["deps", "left", "right"] ["deps"] (defScope st_columns_of) := ⟨rfl, rfl, rfl, by decide +kernel, rfl, by decide +kernel, by decide +kernel⟩
theorem b_columns_of (T : Tx mg) (F_once : FnP P w K mg base "once" 2 ["things"] (spF ⟨P, w, K⟩ 1 (S_once))) (f : Addr) (cdv : Value) (A : Around) (outer : List Env) (s : Shared) (H : Hp) (E : XK) (hr : Room 3 (A.deeper (envOfC "columns_of" (defScope st_columns_of) s.heap.objs.size f cdv))) :
    QSs (cxOf CX0 P w K mg base ["deps", "left", "right"] "columns_of" (defScope st_columns_of) f cdv A outer s H E).nox [] (defBody st_columns_of) W_columns_of :=
  (qss_one (qs_ret (qe (qf_callTy (c_tuple rfl) m_tuple rfl T.tuple_ boot_tuple (qav_cons (qv (qf_callB (c_sorted rfl hr.units) m_sorted rfl T.sorted_ boot_sorted (qav_cons (qv (qf_dn (qe_fz (qo_call F_once (hr.mono (by decide)) rfl (qae_cons (qe (qf_callB (c_sum rfl) m_sum rfl T.sum_ boot_sum (qav_cons (qv (qf_dn (qe_fz (qo_lc (own := [("left", 1), ("right", 2)]) rfl sc_columns_of.nd (qi_seq (qe (qf_name (pv 0)))) (blkOk_by rfl) (fun _ _ _ _ _ => (qg_tup rfl (qgs_cons (qg_name (i := 1) sc_columns_of.nd rfl (by first | exact Or.inl rfl | exact Or.inr rfl)) (qgs_cons (qg_name (i := 2) sc_columns_of.nd rfl (by first | exact Or.inl rfl | exact Or.inr rfl)) qgs_nil)))) (fun _ _ _ _ _ => qts_nil) (fun _ _ _ _ _ => (qe (qf_op o_add m_add (qv (qf_name (pv 1))) (qv (qf_name (pv 2)))))))))) (qav_cons (qv (qf_tup qaf_nil)) qav_nil)))) qae_nil))))) qav_nil))) qav_nil)))))
theorem sc_has_all : FnScope ["columns", "known", "column"] ["columns", "known"] (defScope st_has_all) := ⟨rfl, rfl, rfl, by decide +kernel, rfl, by decide +kernel, by decide +kernel⟩
theorem b_has_all (T : Tx mg) (f : Addr) (cdv : Value) (A : Around) (outer : List Env) (s : Shared) (H : Hp) (E : XK) (hr : Room 1 (A.deeper (envOfC "has_all" (defScope st_has_all) s.heap.objs.size f cdv))) :
    QSs (cxOf CX0 P w K mg base ["columns", "known", "column"] "has_all" (defScope st_has_all) f cdv A outer s H E).nox [] (defBody st_has_all) W_has_all :=
  (qss_one (qs_ret (qe (qf_cmp (o_eq hr.units) m_eq (qv (qf_dn (qe_fz (qo_lc (own := [("column", 2)]) rfl sc_has_all.nd (qi_seq (qe (qf_name (pv 0)))) (blkOk_by rfl) (fun _ _ _ _ _ => (qg_name (i := 2) sc_has_all.nd rfl (by first | exact Or.inl rfl | exact Or.inr rfl))) (fun _ _ _ _ _ => (qts_one (qte (qt_cmp (o_notIn hr.units) m_notIn (qv (qf_name (pv 2))) (qv (qf_name (pv 1))) (by with_unfolding_all rfl))))) (fun _ _ _ _ _ => (qe (qf_name (pv 2)))))))) (qv (qf_lst qaf_nil)) (nomark _)))))
theorem sc_steps_to : FnScope ["deps", "left", "right", "known", "steps", "able", "k"] ["deps", "left", "right"] (defScope st_steps_to) := ⟨rfl, rfl, rfl, by decide +kernel, rfl, by decide +kernel, by decide +kernel⟩
theorem b_steps_to (T : Tx mg) (F_once : FnP P w K mg base "once" 2 ["things"] (spF ⟨P, w, K⟩ 1 (S_once))) (F_has_all : FnP P w K mg base "has_all" 2 ["columns", "known"] (spF ⟨P, w, K⟩ 2 (S_has_all))) (f : Addr) (cdv : Value) (A : Around) (outer : List Env) (s : Shared) (H : Hp) (E : XK) (hr : Room 5 (A.deeper (envOfC "steps_to" (defScope st_steps_to) s.heap.objs.size f cdv))) :
    QSs (cxOf CX0 P w K mg base ["deps", "left", "right", "known", "steps", "able", "k"] "steps_to" (defScope st_steps_to) f cdv A outer s H E).nox [] (defBody st_steps_to) W_steps_to :=
  (qss_cons (qs_set (i := 3) sc_steps_to.nd rfl (by first | exact Or.inl rfl | exact Or.inr rfl) (qe_fz (qo_call F_once (hr.mono (by decide)) rfl (qae_cons (qe (qf_name (pv 1))) qae_nil))))
  (qss_cons (qs_set (i := 4) sc_steps_to.nd rfl (by first | exact Or.inl rfl | exact Or.inr rfl) (qe (qf_tup qaf_nil)))
  (qss_cons (qs_while PassesOwn.never (qte (qt_not (qt_val (qv (qf_dn (qe_fz (qo_call F_has_all (hr.mono (by decide)) rfl (qae_cons (qe (qf_name (pv 2))) (qae_cons (qe (qf_name (pv 3))) qae_nil)))))))))
    (qss_cons (qs_setO (i := 5) sc_steps_to.nd rfl (by first | exact Or.inl rfl | exact Or.inr rfl) (qo_lst qae_nil))
    (qss_cons (qs_for PassesOwn.never rfl (qi_range1 rfl T.range_ (qae_cons (qe (qf_callB c_len m_len rfl T.len_ boot_len (qav_cons (qv (qf_name (pv 0))) qav_nil))) qae_nil)) (qg_name (i := 6) sc_steps_to.nd rfl (by first | exact Or.inl rfl | exact Or.inr rfl))
      (qss_one (qs_if (qte (qt_w (qw_and (qt_cmp (o_notIn hr.units) m_notIn (qv (qf_name (pv 6))) (qv (qf_name (pv 4))) (by with_unfolding_all rfl)) (qw_and1 (qt_val (qv (qf_dn (qe_fz (qo_call F_has_all (hr.mono (by decide)) rfl (qae_cons (qe (qf_ix (i_idx hr.units) m_idx (qv (qf_ix (i_idx hr.units) m_idx (qv (qf_name (pv 0))) (qv (qf_name (pv 6))) (fun _ _ => rfl))) (qv qf_int) (fun _ _ => rfl))) (qae_cons (qe (qf_name (pv 3))) qae_nil)))))))))))
        (qss_one (qs_expr (qe_append (pv 5) (qe (qf_name (pv 6))))))
        qss_nil)))
    (qss_cons (qs_if (qte (qt_cmp (o_eq hr.units) m_eq (qv_name (pv 5)) (qv (qf_lst qaf_nil)) (nomark _)))
      (qss_one (qs_ret (qe qf_non)))
      qss_nil)
    (qss_cons (qs_set (i := 4) sc_steps_to.nd rfl (by first | exact Or.inl rfl | exact Or.inr rfl) (qe (qf_op o_add m_add (qv (qf_name (pv 4))) (qv (qf_tup (qaf_cons (qf_ix (i_idx hr.units) m_idx (qv_name (pv 5)) (qv qf_int) (fun _ _ => rfl)) qaf_nil))))))
    (qss_one (qs_set (i := 3) sc_steps_to.nd rfl (by first | exact Or.inl rfl | exact Or.inr rfl) (qe_fz (qo_call F_once (hr.mono (by decide)) rfl (qae_cons (qe (qf_op o_add m_add (qv (qf_name (pv 3))) (qv (qf_ix (i_idx hr.units) m_idx (qv (qf_ix (i_idx hr.units) m_idx (qv (qf_name (pv 0))) (qv (qf_ix (i_idx hr.units) m_idx (qv_name (pv 5)) (qv qf_int) (fun _ _ => rfl))) (fun _ _ => rfl))) (qv qf_int) (fun _ _ => rfl))))) qae_nil))))))))))
  (qss_one (qs_ret (qe (qf_name (pv 4))))))))
theorem sc_follows : FnScope ["deps", "dep", "steps", "columns", "known", "column"] ["deps", "dep"] (defScope st_follows) := ⟨rfl, rfl, rfl, by decide +kernel, rfl, by decide +kernel, by decide +kernel⟩
theorem b_follows (T : Tx mg) (F_steps_to : FnP P w K mg base "steps_to" 6 ["deps", "left", "right"] (spF ⟨P, w, K⟩ 3 (S_steps_to))) (F_columns_of : FnP P w K mg base "columns_of" 4 ["deps"] (spF ⟨P, w, K⟩ 1 (S_columns_of))) (F_closure : FnP P w K mg base "closure" 4 ["deps", "columns"] (spF ⟨P, w, K⟩ 2 (S_closure))) (f : Addr) (cdv : Value) (A : Around) (outer : List Env) (s : Shared) (H : Hp) (E : XK) (hr : Room 7 (A.deeper (envOfC "follows" (defScope st_follows) s.heap.objs.size f cdv))) :
    QSs (cxOf CX0 P w K mg base ["deps", "dep", "steps", "columns", "known", "column"] "follows" (defScope st_follows) f cdv A outer s H E).nox [] (defBody st_follows) W_follows :=
  (qss_cons (qs_set (i := 2) sc_follows.nd rfl (by first | exact Or.inl rfl | exact Or.inr rfl) (qe_fz (qo_call F_steps_to (hr.mono (by decide)) rfl (qae_cons (qe (qf_name (pv 0))) (qae_cons (qe (qf_ix (i_idx hr.units) m_idx (qv (qf_name (pv 1))) (qv qf_int) (fun _ _ => rfl))) (qae_cons (qe (qf_ix (i_idx hr.units) m_idx (qv (qf_name (pv 1))) (qv qf_int) (fun _ _ => rfl))) qae_nil))))))
  (qss_cons (qs_if (qte (qt_notN (qv (qf_name (pv 2)))))
    (qss_one (qs_ret (qe (qf_tup (qaf_cons qf_str (qaf_cons (qf_name (pv 2)) qaf_nil))))))
    qss_nil)
  (qss_cons (qs_set (i := 3) sc_follows.nd rfl (by first | exact Or.inl rfl | exact Or.inr rfl) (qe_fz (qo_call F_columns_of (hr.mono (by decide)) rfl (qae_cons (qe (qf_op o_add m_add (qv (qf_callTy (c_tuple rfl) m_tuple rfl T.tuple_ boot_tuple (qav_cons (qv (qf_name (pv 0))) qav_nil))) (qv (qf_tup (qaf_cons (qf_name (pv 1)) qaf_nil))))) qae_nil))))
  (qss_cons (qs_set (i := 4) sc_follows.nd rfl (by first | exact Or.inl rfl | exact Or.inr rfl) (qe_fz (qo_call F_closure (hr.mono (by decide)) rfl (qae_cons (qe (qf_name (pv 0))) (qae_cons (qe (qf_ix (i_idx hr.units) m_idx (qv (qf_name (pv 1))) (qv qf_int) (fun _ _ => rfl))) qae_nil)))))
  (qss_one (qs_ret (qe (qf_tup (qaf_cons qf_str (qaf_cons (qf_tup (qaf_cons (qf_callTy (c_tuple rfl) m_tuple rfl T.tuple_ boot_tuple (qav_cons (qv (qf_op o_mul m_mul (qv (qf_lst (qaf_cons qf_int qaf_nil))) (qv (qf_callB c_len m_len rfl T.len_ boot_len (qav_cons (qv (qf_name (pv 3))) qav_nil))))) qav_nil)) (qaf_cons (qf_callTy (c_tuple rfl) m_tuple rfl T.tuple_ boot_tuple (qav_cons (qv (qf_dn (qe_fz (qo_lc (own := [("column", 5)]) rfl sc_follows.nd (qi_seq (qe (qf_name (pv 3)))) (blkOk_by rfl) (fun _ _ _ _ _ => (qg_name (i := 5) sc_follows.nd rfl (by first | exact Or.inl rfl | exact Or.inr rfl))) (fun _ _ _ _ _ => qts_nil) (fun _ _ _ _ _ => (qe (qf_if (qt_cmp (o_in hr.units) m_in (qv (qf_name (pv 5))) (qv (qf_name (pv 4))) (by with_unfolding_all rfl)) qf_int qf_int))))))) qav_nil)) qaf_nil))) qaf_nil))))))))))
theorem sc_is_leading : FnScope ["deps", "dep", "steps", "known", "k"] ["deps", "dep", "steps"] (defScope st_is_leading) := ⟨rfl, rfl, rfl, by decide +kernel, rfl, by decide +kernel, by decide +kernel⟩
theorem b_is_leading (T : Tx mg) (F_once : FnP P w K mg base "once" 2 ["things"] (spF ⟨P, w, K⟩ 1 (S_once))) (F_has_all : FnP P w K mg base "has_all" 2 ["columns", "known"] (spF ⟨P, w, K⟩ 2 (S_has_all))) (f : Addr) (cdv : Value) (A : Around) (outer : List Env) (s : Shared) (H : Hp) (E : XK) (hr : Room 5 (A.deeper (envOfC "is_leading" (defScope st_is_leading) s.heap.objs.size f cdv))) :
    QSs (cxOf CX0 P w K mg base ["deps", "dep", "steps", "known", "k"] "is_leading" (defScope st_is_leading) f cdv A outer s H E).nox [] (defBody st_is_leading) W_is_leading :=
  (qss_cons (qs_if (qte (qt_w (qw_or (qt_not (qt_val (qv (qf_isi rfl T.isinstance_ (qv (qf_name (pv 2))) rfl T.tuple_ boot_tuple)))) (qw_or1 (qt_cmp (o_ne hr.units) m_ne (qv (qf_callB c_len m_len rfl T.len_ boot_len (qav_cons (qv (qf_dn (qe_fz (qo_call F_once (hr.mono (by decide)) rfl (qae_cons (qe (qf_name (pv 2))) qae_nil))))) qav_nil))) (qv (qf_callB c_len m_len rfl T.len_ boot_len (qav_cons (qv (qf_name (pv 2))) qav_nil))) (nomark _))))))
    (qss_one (qs_ret (qe qf_bl)))
    qss_nil)
  (qss_cons (qs_set (i := 3) sc_is_leading.nd rfl (by first | exact Or.inl rfl | exact Or.inr rfl) (qe_fz (qo_call F_once (hr.mono (by decide)) rfl (qae_cons (qe (qf_ix (i_idx hr.units) m_idx (qv (qf_name (pv 1))) (qv qf_int) (fun _ _ => rfl))) qae_nil))))
  (qss_cons (qs_for PassesOwn.never rfl (qi_seq (qe (qf_name (pv 2)))) (qg_name (i := 4) sc_is_leading.nd rfl (by first | exact Or.inl rfl | exact Or.inr rfl))
    (qss_cons (qs_if (qte (qt_w (qw_or (qt_val (qv (qf_isi rfl T.isinstance_ (qv (qf_name (pv 4))) rfl T.bool_ boot_bool))) (qw_or (qt_not (qt_val (qv (qf_isi rfl T.isinstance_ (qv (qf_name (pv 4))) rfl T.int_ boot_int)))) (qw_or (qt_not (qt_chain (o_le hr.units) (o_lt hr.units) m_le m_lt (qv qf_int) (qv (qf_name (pv 4))) (qv (qf_callB c_len m_len rfl T.len_ boot_len (qav_cons (qv (qf_name (pv 0))) qav_nil))))) (qw_or1 (qt_not (qt_val (qv (qf_dn (qe_fz (qo_call F_has_all (hr.mono (by decide)) rfl (qae_cons (qe (qf_ix (i_idx hr.units) m_idx (qv (qf_ix (i_idx hr.units) m_idx (qv (qf_name (pv 0))) (qv (qf_name (pv 4))) (fun _ _ => rfl))) (qv qf_int) (fun _ _ => rfl))) (qae_cons (qe (qf_name (pv 3))) qae_nil))))))))))))))
      (qss_one (qs_ret (qe qf_bl)))
      qss_nil)
    (qss_one (qs_set (i := 3) sc_is_leading.nd rfl (by first | exact Or.inl rfl | exact Or.inr rfl) (qe_fz (qo_call F_once (hr.mono (by decide)) rfl (qae_cons (qe (qf_op o_add m_add (qv (qf_name (pv 3))) (qv (qf_ix (i_idx hr.units) m_idx (qv (qf_ix (i_idx hr.units) m_idx (qv (qf_name (pv 0))) (qv (qf_name (pv 4))) (fun _ _ => rfl))) (qv qf_int) (fun _ _ => rfl))))) qae_nil)))))))
  (qss_one (qs_ret (qe_fz (qo_call F_has_all (hr.mono (by decide)) rfl (qae_cons (qe (qf_ix (i_idx hr.units) m_idx (qv (qf_name (pv 1))) (qv qf_int) (fun _ _ => rfl))) (qae_cons (qe (qf_name (pv 3))) qae_nil)))))))))
theorem sc_agrees : FnScope ["columns", "one", "other", "own", "k"] ["columns", "one", "other", "own"] (defScope st_agrees) := ⟨rfl, rfl, rfl, by decide +kernel, rfl, by decide +kernel, by decide +kernel⟩
theorem b_agrees (T : Tx mg) (f : Addr) (cdv : Value) (A : Around) (outer : List Env) (s : Shared) (H : Hp) (E : XK) (hr : Room 1 (A.deeper (envOfC "agrees" (defScope st_agrees) s.heap.objs.size f cdv))) :
    QSs (cxOf CX0 P w K mg base ["columns", "one", "other", "own", "k"] "agrees" (defScope st_agrees) f cdv A outer s H E).nox [] (defBody st_agrees) W_agrees :=
  (qss_one (qs_ret (qe (qf_cmp (o_eq hr.units) m_eq (qv (qf_dn (qe_fz (qo_lc (own := [("k", 4)]) rfl sc_agrees.nd (qi_range1 rfl T.range_ (qae_cons (qe (qf_callB c_len m_len rfl T.len_ boot_len (qav_cons (qv (qf_name (pv 0))) qav_nil))) qae_nil)) (blkOk_by rfl) (fun _ _ _ _ _ => (qg_name (i := 4) sc_agrees.nd rfl (by first | exact Or.inl rfl | exact Or.inr rfl))) (fun _ _ _ _ _ => (qts_one (qte (qt_w (qw_and (qt_cmp (o_in hr.units) m_in (qv (qf_ix (i_idx hr.units) m_idx (qv (qf_name (pv 0))) (qv (qf_name (pv 4))) (fun _ _ => rfl))) (qv (qf_name (pv 3))) (by with_unfolding_all rfl)) (qw_and1 (qt_cmp (o_ne hr.units) m_ne (qv (qf_ix (i_idx hr.units) m_idx (qv (qf_name (pv 1))) (qv (qf_name (pv 4))) (fun _ _ => rfl))) (qv (qf_ix (i_idx hr.units) m_idx (qv (qf_name (pv 2))) (qv (qf_name (pv 4))) (fun _ _ => rfl))) (nomark _)))))))) (fun _ _ _ _ _ => (qe (qf_name (pv 4)))))))) (qv (qf_lst qaf_nil)) (nomark _)))))
theorem sc_keeps : FnScope ["columns", "deps", "one", "other", "left", "right"] ["columns", "deps", "one", "other"] (defScope st_keeps) := ⟨rfl, rfl, rfl, by decide +kernel, rfl, by decide +kernel, by decide +kernel⟩
theorem b_keeps (T : Tx mg) (F_agrees : FnP P w K mg base "agrees" 2 ["columns", "one", "other", "own"] (spF ⟨P, w, K⟩ 4 (S_agrees))) (f : Addr) (cdv : Value) (A : Around) (outer : List Env) (s : Shared) (H : Hp) (E : XK) (hr : Room 3 (A.deeper (envOfC "keeps" (defScope st_keeps) s.heap.objs.size f cdv))) :
    QSs (cxOf CX0 P w K mg base ["columns", "deps", "one", "other", "left", "right"] "keeps" (defScope st_keeps) f cdv A outer s H E).nox [] (defBody st_keeps) W_keeps :=
  (qss_cons (qs_for PassesOwn.never rfl (qi_seq (qe (qf_name (pv 1)))) (qg_tup rfl (qgs_cons (qg_name (i := 4) sc_keeps.nd rfl (by first | exact Or.inl rfl | exact Or.inr rfl)) (qgs_cons (qg_name (i := 5) sc_keeps.nd rfl (by first | exact Or.inl rfl | exact Or.inr rfl)) qgs_nil)))
    (qss_one (qs_if (qte (qt_w (qw_and (qt_val (qv (qf_dn (qe_fz (qo_call F_agrees (hr.mono (by decide)) rfl (qae_cons (qe (qf_name (pv 0))) (qae_cons (qe (qf_name (pv 2))) (qae_cons (qe (qf_name (pv 3))) (qae_cons (qe (qf_name (pv 4))) qae_nil))))))))) (qw_and1 (qt_not (qt_val (qv (qf_dn (qe_fz (qo_call F_agrees (hr.mono (by decide)) rfl (qae_cons (qe (qf_name (pv 0))) (qae_cons (qe (qf_name (pv 2))) (qae_cons (qe (qf_name (pv 3))) (qae_cons (qe (qf_name (pv 5))) qae_nil))))))))))))))
      (qss_one (qs_ret (qe qf_bl)))
      qss_nil)))
  (qss_one (qs_ret (qe qf_bl))))
theorem sc_is_breaking : FnScope ["deps", "dep", "one", "other", "columns", "row"] ["deps", "dep", "one", "other"] (defScope st_is_breaking) := ⟨rfl, rfl, rfl, by decide +kernel, rfl, by decide +kernel, by decide +kernel⟩
theorem b_is_breaking (T : Tx mg) (F_columns_of : FnP P w K mg base "columns_of" 4 ["deps"] (spF ⟨P, w, K⟩ 1 (S_columns_of))) (F_keeps : FnP P w K mg base "keeps" 4 ["columns", "deps", "one", "other"] (spF ⟨P, w, K⟩ 4 (S_keeps))) (f : Addr) (cdv : Value) (A : Around) (outer : List Env) (s : Shared) (H : Hp) (E : XK) (hr : Room 5 (A.deeper (envOfC "is_breaking" (defScope st_is_breaking) s.heap.objs.size f cdv))) :
    QSs (cxOf CX0 P w K mg base ["deps", "dep", "one", "other", "columns", "row"] "is_breaking" (defScope st_is_breaking) f cdv A outer s H E).nox [] (defBody st_is_breaking) W_is_breaking :=
  (qss_cons (qs_set (i := 4) sc_is_breaking.nd rfl (by first | exact Or.inl rfl | exact Or.inr rfl) (qe_fz (qo_call F_columns_of (hr.mono (by decide)) rfl (qae_cons (qe (qf_op o_add m_add (qv (qf_callTy (c_tuple rfl) m_tuple rfl T.tuple_ boot_tuple (qav_cons (qv (qf_name (pv 0))) qav_nil))) (qv (qf_tup (qaf_cons (qf_name (pv 1)) qaf_nil))))) qae_nil))))
  (qss_cons (qs_for PassesOwn.never rfl (qi_seq (qe (qf_tup (qaf_cons (qf_name (pv 2)) (qaf_cons (qf_name (pv 3)) qaf_nil))))) (qg_name (i := 5) sc_is_breaking.nd rfl (by first | exact Or.inl rfl | exact Or.inr rfl))
    (qss_one (qs_if (qte (qt_w (qw_or (qt_not (qt_val (qv (qf_isi rfl T.isinstance_ (qv (qf_name (pv 5))) rfl T.tuple_ boot_tuple)))) (qw_or1 (qt_cmp (o_ne hr.units) m_ne (qv (qf_callB c_len m_len rfl T.len_ boot_len (qav_cons (qv (qf_name (pv 5))) qav_nil))) (qv (qf_callB c_len m_len rfl T.len_ boot_len (qav_cons (qv (qf_name (pv 4))) qav_nil))) (nomark _))))))
      (qss_one (qs_ret (qe qf_bl)))
      qss_nil)))
  (qss_one (qs_ret (qe (qf_and (qf_dn (qe_fz (qo_call F_keeps (hr.mono (by decide)) rfl (qae_cons (qe (qf_name (pv 4))) (qae_cons (qe (qf_name (pv 0))) (qae_cons (qe (qf_name (pv 2))) (qae_cons (qe (qf_name (pv 3))) qae_nil))))))) (qf_one (qf_not (qf_dn (qe_fz (qo_call F_keeps (hr.mono (by decide)) rfl (qae_cons (qe (qf_name (pv 4))) (qae_cons (qe (qf_tup (qaf_cons (qf_name (pv 1)) qaf_nil))) (qae_cons (qe (qf_name (pv 2))) (qae_cons (qe (qf_name (pv 3))) qae_nil)))))))))))))))
theorem sc__law_draws : FnScope ["script", "many", "draws", "mixed", "k", "cell", "rest", "turn"] ["script", "many"] (defScope st__law_draws) := ⟨rfl, rfl, rfl, by decide +kernel, rfl, by decide +kernel, by decide +kernel⟩
theorem b__law_draws (T : Tx mg) (f : Addr) (cdv : Value) (A : Around) (outer : List Env) (s : Shared) (H : Hp) (E : XK) (v : V) (hr : Room 1 (A.deeper (envOfC "_law_draws" (defScope st__law_draws) s.heap.objs.size f cdv))) :
    QSs (cxOf CX0 P w K mg base ["script", "many", "draws", "mixed", "k", "cell", "rest", "turn"] "_law_draws" (defScope st__law_draws) f cdv A outer s H E).nox [(0, v)] (defBody st__law_draws) W__law_draws :=
  (qss_cons (qs_setO (i := 2) sc__law_draws.nd rfl (by first | exact Or.inl rfl | exact Or.inr rfl) (qo_lst qae_nil))
  (qss_cons (qs_set (i := 3) sc__law_draws.nd rfl (by first | exact Or.inl rfl | exact Or.inr rfl) (qe qf_int))
  (qss_cons (qs_for PassesOwn.never rfl (qi_range1 rfl T.range_ (qae_cons (qe (qf_lenS rfl T.len_ (pv 0))) qae_nil)) (qg_name (i := 4) sc__law_draws.nd rfl (by first | exact Or.inl rfl | exact Or.inr rfl))
    (qss_cons (qs_set (i := 5) sc__law_draws.nd rfl (by first | exact Or.inl rfl | exact Or.inr rfl) (qe (qf_callB c_abs m_abs rfl T.abs_ boot_abs (qav_cons (qv (qf_callTy c_int m_int rfl T.int_ boot_int (qav_cons (qv (qf_scr (pv 0) (qv (qf_name (pv 4))) (fun _ _ => rfl))) qav_nil))) qav_nil))))
    (qss_cons (qs_set (i := 3) sc__law_draws.nd rfl (by first | exact Or.inl rfl | exact Or.inr rfl) (qe (qf_op o_mod m_mod (qv (qf_callTy c_int m_int rfl T.int_ boot_int (qav_cons (qv (qf_op o_add m_add (qv (qf_op o_add m_add (qv (qf_op o_mul m_mul (qv (qf_name (pv 3))) (qv qf_int))) (qv (qf_op o_mod m_mod (qv (qf_name (pv 5))) (qv qf_int))))) (qv (qf_name (pv 4))))) qav_nil))) (qv qf_int))))
    (qss_cons (qs_set (i := 6) sc__law_draws.nd rfl (by first | exact Or.inl rfl | exact Or.inr rfl) (qe qf_int))
    (qss_cons (qs_if (qte (qt_cmp (o_ge hr.units) m_ge (qv (qf_name (pv 5))) (qv (qf_op o_pow m_pow (qv qf_int) (qv qf_int))) (nomark _)))
      (qss_one (qs_set (i := 6) sc__law_draws.nd rfl (by first | exact Or.inl rfl | exact Or.inr rfl) (qe (qf_name (pv 5)))))
      (qss_cons (qs_expr (qe_append (pv 2) (qe (qf_op o_mod m_mod (qv (qf_callTy c_int m_int rfl T.int_ boot_int (qav_cons (qv (qf_name (pv 5))) qav_nil))) (qv qf_int)))))
      (qss_one (qs_expr (qe_append (pv 2) (qe (qf_op o_mod m_mod (qv (qf_op o_mod m_mod (qv (qf_callTy c_int m_int rfl T.int_ boot_int (qav_cons (qv (qf_op o_add m_add (qv (qf_op o_mul m_mul (qv (qf_name (pv 3))) (qv qf_int))) (qv qf_int))) qav_nil))) (qv qf_int))) (qv qf_int))))))))
    (qss_one (qs_for PassesOwn.never rfl (qi_range1 rfl T.range_ (qae_cons (qe qf_int) qae_nil)) (qg_name (i := 7) sc__law_draws.nd rfl (by first | exact Or.inl rfl | exact Or.inr rfl))
      (qss_one (qs_if (qte (qt_cmp (o_gt hr.units) m_gt (qv (qf_name (pv 6))) (qv qf_int) (nomark _)))
        (qss_cons (qs_expr (qe_append (pv 2) (qe (qf_op o_mod m_mod (qv (qf_callTy c_int m_int rfl T.int_ boot_int (qav_cons (qv (qf_name (pv 6))) qav_nil))) (qv qf_int)))))
        (qss_one (qs_set (i := 6) sc__law_draws.nd rfl (by first | exact Or.inl rfl | exact Or.inr rfl) (qe (qf_op o_fdiv m_fdiv (qv (qf_name (pv 6))) (qv qf_int))))))
        qss_nil)))))))))
  (qss_cons (qs_for PassesOwn.never rfl (qi_range1 rfl T.range_ (qae_cons (qe (qf_name (pv 1))) qae_nil)) (qg_name (i := 4) sc__law_draws.nd rfl (by first | exact Or.inl rfl | exact Or.inr rfl))
    (qss_cons (qs_set (i := 3) sc__law_draws.nd rfl (by first | exact Or.inl rfl | exact Or.inr rfl) (qe (qf_op o_mod m_mod (qv (qf_callTy c_int m_int rfl T.int_ boot_int (qav_cons (qv (qf_op o_add m_add (qv (qf_op o_add m_add (qv (qf_op o_mul m_mul (qv (qf_name (pv 3))) (qv qf_int))) (qv (qf_name (pv 4))))) (qv qf_int))) qav_nil))) (qv qf_int))))
    (qss_one (qs_expr (qe_append (pv 2) (qe (qf_op o_mod m_mod (qv (qf_callTy c_int m_int rfl T.int_ boot_int (qav_cons (qv (qf_name (pv 3))) qav_nil))) (qv qf_int))))))))
  (qss_one (qs_ret (qe (qf_slice (qv_name (pv 2)) qp_no (qp_some (qv (qf_name (pv 1))))))))))))
theorem sc__law_next : FnScope ["w", "many"] ["w", "many"] (defScope st__law_next) := ⟨rfl, rfl, rfl, by decide +kernel, rfl, by decide +kernel, by decide +kernel⟩
theorem b__law_next (T : Tx mg) (f : Addr) (cdv : Value) (A : Around) (outer : List Env) (s : Shared) (H : Hp) (E : XK) (v : V) (hr : Room 1 (A.deeper (envOfC "_law_next" (defScope st__law_next) s.heap.objs.size f cdv))) :
    QSs (cxOf CX0 P w K mg base ["w", "many"] "_law_next" (defScope st__law_next) f cdv A outer s H E).nox [(0, v)] (defBody st__law_next) W__law_next :=
  (qss_cons (qs_aug hr.units (pv 0) (qe qf_str) (qe qf_int))
  (qss_cons (qs_if (qte (qt_cmp (o_gt hr.units) m_gt (qv (qf_ix (i_idx hr.units) m_idx (qv_name (pv 0)) (qv qf_str) (fun _ _ => rfl))) (qv (qf_callB c_len m_len rfl T.len_ boot_len (qav_cons (qv (qf_ix (i_idx hr.units) m_idx (qv_name (pv 0)) (qv qf_str) (fun _ _ => rfl))) qav_nil))) (nomark _)))
    (qss_one (qs_ret (qe qf_int)))
    qss_nil)
  (qss_one (qs_ret (qe (qf_op o_mod m_mod (qv (qf_callTy c_int m_int rfl T.int_ boot_int (qav_cons (qv (qf_ix (i_idx hr.units) m_idx (qv (qf_ix (i_idx hr.units) m_idx (qv_name (pv 0)) (qv qf_str) (fun _ _ => rfl))) (qv (qf_op o_sub m_sub (qv (qf_ix (i_idx hr.units) m_idx (qv_name (pv 0)) (qv qf_str) (fun _ _ => rfl))) (qv qf_int))) (fun _ _ => rfl))) qav_nil))) (qv (qf_name (pv 1)))))))))
theorem sc__law_pick : FnScope ["w", "rows"] ["w", "rows"] (defScope st__law_pick) := ⟨rfl, rfl, rfl, by decide +kernel, rfl, by decide +kernel, by decide +kernel⟩
theorem b__law_pick (T : Tx mg) (F__law_next : FnP P w K mg base "_law_next" 2 ["w", "many"] (spM ⟨P, w, K⟩ 1 (S__law_next))) (f : Addr) (cdv : Value) (A : Around) (outer : List Env) (s : Shared) (H : Hp) (E : XK) (v : V) (hr : Room 3 (A.deeper (envOfC "_law_pick" (defScope st__law_pick) s.heap.objs.size f cdv))) :
    QSs (cxOf CX0 P w K mg base ["w", "rows"] "_law_pick" (defScope st__law_pick) f cdv A outer s H E).nox [(0, v)] (defBody st__law_pick) W__law_pick :=
  (qss_one (qs_ret (qe_ix (i_idx hr.units) m_idx (qe (qf_name (pv 1))) (qe_fz (qo_callM F__law_next (hr.mono (by decide)) rfl (pv 0) (qae_cons (qe (qf_callB c_len m_len rfl T.len_ boot_len (qav_cons (qv (qf_name (pv 1))) qav_nil))) qae_nil))) (fun _ _ => rfl))))
theorem sc__law_alike : FnScope ["told", "due", "k"] ["told", "due"] (defScope st__law_alike) := ⟨rfl, rfl, rfl, by decide +kernel, rfl, by decide +kernel, by decide +kernel⟩
theorem b__law_alike {m k0 : Nat} (T : Tx mg) (F__law_alike : FnP P w K mg base "_law_alike" k0 ["told", "due"] (spF ⟨P, w, K⟩ 2 (S__law_alike m))) (f : Addr) (cdv : Value) (A : Around) (outer : List Env) (s : Shared) (H : Hp) (E : XK) (hr : Room k0 (A.deeper (envOfC "_law_alike" (defScope st__law_alike) s.heap.objs.size f cdv))) :
    QSs (cxOf CX0 P w K mg base ["told", "due", "k"] "_law_alike" (defScope st__law_alike) f cdv A outer s H E).nox [] (defBody st__law_alike) (W__law_alike m) :=
  (qss_cons (qs_if (qte (qt_val (qv (qf_isi rfl T.isinstance_ (qv (qf_name (pv 1))) rfl T.tuple_ boot_tuple))))
    (qss_cons (qs_if (qte (qt_w (qw_or (qt_not (qt_val (qv (qf_isi rfl T.isinstance_ (qv (qf_name (pv 0))) rfl T.tuple_ boot_tuple)))) (qw_or1 (qt_cmp (o_ne hr.units) m_ne (qv (qf_callB c_len m_len rfl T.len_ boot_len (qav_cons (qv (qf_name (pv 0))) qav_nil))) (qv (qf_callB c_len m_len rfl T.len_ boot_len (qav_cons (qv (qf_name (pv 1))) qav_nil))) (nomark _))))))
      (qss_one (qs_ret (qe qf_bl)))
      qss_nil)
    (qss_one (qs_ret (qe (qf_cmp (o_eq hr.units) m_eq (qv (qf_dn (qe_fz (qo_lc (own := [("k", 2)]) rfl sc__law_alike.nd (qi_range1 rfl T.range_ (qae_cons (qe (qf_callB c_len m_len rfl T.len_ boot_len (qav_cons (qv (qf_name (pv 1))) qav_nil))) qae_nil)) (blkOk_by rfl) (fun _ _ _ _ _ => (qg_name (i := 2) sc__law_alike.nd rfl (by first | exact Or.inl rfl | exact Or.inr rfl))) (fun _ _ _ _ _ => (qts_one (qte (qt_not (qt_val (qv (qf_dn (qe_fz (qo_call F__law_alike hr rfl (qae_cons (qe (qf_ix (i_idx hr.units) m_idx (qv (qf_name (pv 0))) (qv (qf_name (pv 2))) (fun _ _ => rfl))) (qae_cons (qe (qf_ix (i_idx hr.units) m_idx (qv (qf_name (pv 1))) (qv (qf_name (pv 2))) (fun _ _ => rfl))) qae_nil))))))))))) (fun _ _ _ _ _ => (qe (qf_name (pv 2)))))))) (qv (qf_lst qaf_nil)) (nomark _))))))
    qss_nil)
  (qss_cons (qs_if (qte (qt_isN (qv (qf_name (pv 1)))))
    (qss_one (qs_ret (qe (qf_isN (qv (qf_name (pv 0)))))))
    qss_nil)
  (qss_cons (qs_if (qte (qt_val (qv (qf_isi rfl T.isinstance_ (qv (qf_name (pv 1))) rfl T.bool_ boot_bool))))
    (qss_one (qs_ret (qe (qf_and (qf_isi rfl T.isinstance_ (qv (qf_name (pv 0))) rfl T.bool_ boot_bool) (qf_one (qf_cmp (o_eq hr.units) m_eq (qv (qf_name (pv 0))) (qv (qf_name (pv 1))) (nomark _)))))))
    qss_nil)
  (qss_cons (qs_if (qte (qt_val (qv (qf_isi rfl T.isinstance_ (qv (qf_name (pv 1))) rfl T.int_ boot_int))))
    (qss_one (qs_ret (qe (qf_and (qf_isi rfl T.isinstance_ (qv (qf_name (pv 0))) rfl T.int_ boot_int) (qf_and (qf_not (qf_isi rfl T.isinstance_ (qv (qf_name (pv 0))) rfl T.bool_ boot_bool)) (qf_one (qf_cmp (o_eq hr.units) m_eq (qv (qf_name (pv 0))) (qv (qf_name (pv 1))) (nomark _))))))))
    qss_nil)
  (qss_one (qs_ret (qe (qf_and (qf_isi rfl T.isinstance_ (qv (qf_name (pv 0))) rfl T.str_ boot_str) (qf_one (qf_cmp (o_eq hr.units) m_eq (qv (qf_name (pv 0))) (qv (qf_name (pv 1))) (nomark _)))))))))))
theorem sc__law_some : FnScope ["w", "columns", "most", "found", "k", "column"] ["w", "columns", "most"] (defScope st__law_some) := ⟨rfl, rfl, rfl, by decide +kernel, rfl, by decide +kernel, by decide +kernel⟩
theorem b__law_some (T : Tx mg) (F__law_pick : FnP P w K mg base "_law_pick" 4 ["w", "rows"] (spM ⟨P, w, K⟩ 1 (S__law_pick))) (f : Addr) (cdv : Value) (A : Around) (outer : List Env) (s : Shared) (H : Hp) (E : XK) (v : V) (hr : Room 5 (A.deeper (envOfC "_law_some" (defScope st__law_some) s.heap.objs.size f cdv))) :
    QSs (cxOf CX0 P w K mg base ["w", "columns", "most", "found", "k", "column"] "_law_some" (defScope st__law_some) f cdv A outer s H E).nox [(0, v)] (defBody st__law_some) W__law_some :=
  (qss_cons (qs_setO (i := 3) sc__law_some.nd rfl (by first | exact Or.inl rfl | exact Or.inr rfl) (qo_lst qae_nil))
  (qss_cons (qs_for PassesOwn.never rfl (qi_range1 rfl T.range_ (qae_cons (qe (qf_name (pv 2))) qae_nil)) (qg_name (i := 4) sc__law_some.nd rfl (by first | exact Or.inl rfl | exact Or.inr rfl))
    (qss_one (qs_expr (qe_append (pv 3) (qe_fz (qo_callM F__law_pick (hr.mono (by decide)) rfl (pv 0) (qae_cons (qe (qf_name (pv 1))) qae_nil)))))))
  (qss_one (qs_ret (qe_callTy (c_tuple rfl) m_tuple rfl T.tuple_ boot_tuple (qae_cons (qe_fz (qo_lc (own := [("column", 5)]) rfl sc__law_some.nd (qi_seq (qe (qf_name (pv 1)))) (blkOk_by rfl) (fun _ _ _ _ _ => (qg_name (i := 5) sc__law_some.nd rfl (by first | exact Or.inl rfl | exact Or.inr rfl))) (fun _ _ _ _ _ => (qts_one (qte (qt_cmp (o_in hr.units) m_in (qv (qf_name (pv 5))) (qv_name (pv 3)) (by with_unfolding_all rfl))))) (fun _ _ _ _ _ => (qe (qf_name (pv 5)))))) qae_nil))))))
theorem sc__law_deps : FnScope ["w", "columns", "least", "found", "k", "left"] ["w", "columns", "least"] (defScope st__law_deps) := ⟨rfl, rfl, rfl, by decide +kernel, rfl, by decide +kernel, by decide +kernel⟩
theorem b__law_deps (T : Tx mg) (F__law_next : FnP P w K mg base "_law_next" 2 ["w", "many"] (spM ⟨P, w, K⟩ 1 (S__law_next))) (F__law_some : FnP P w K mg base "_law_some" 6 ["w", "columns", "most"] (spM ⟨P, w, K⟩ 2 (S__law_some))) (f : Addr) (cdv : Value) (A : Around) (outer : List Env) (s : Shared) (H : Hp) (E : XK) (v : V) (hr : Room 7 (A.deeper (envOfC "_law_deps" (defScope st__law_deps) s.heap.objs.size f cdv))) :
    QSs (cxOf CX0 P w K mg base ["w", "columns", "least", "found", "k", "left"] "_law_deps" (defScope st__law_deps) f cdv A outer s H E).nox [(0, v)] (defBody st__law_deps) W__law_deps :=
  (qss_cons (qs_setO (i := 3) sc__law_deps.nd rfl (by first | exact Or.inl rfl | exact Or.inr rfl) (qo_lst qae_nil))
  (qss_cons (qs_for PassesOwn.never rfl (qi_range1 rfl T.range_ (qae_cons (qe_fz (qo_callM F__law_next (hr.mono (by decide)) rfl (pv 0) (qae_cons (qe qf_int) qae_nil))) qae_nil)) (qg_name (i := 4) sc__law_deps.nd rfl (by first | exact Or.inl rfl | exact Or.inr rfl))
    (qss_cons (qs_set (i := 5) sc__law_deps.nd rfl (by first | exact Or.inl rfl | exact Or.inr rfl) (qe_fz (qo_callM F__law_some (hr.mono (by decide)) rfl (pv 0) (qae_cons (qe (qf_name (pv 1))) (qae_cons (qe_op o_add m_add (qe (qf_name (pv 2))) (qe_fz (qo_callM F__law_next (hr.mono (by decide)) rfl (pv 0) (qae_cons (qe (qf_op o_sub m_sub (qv qf_int) (qv (qf_name (pv 2))))) qae_nil)))) qae_nil)))))
    (qss_one (qs_expr (qe_append (pv 3) (qe_tup (qae_cons (qe (qf_name (pv 5))) (qae_cons (qe_fz (qo_callM F__law_some (hr.mono (by decide)) rfl (pv 0) (qae_cons (qe (qf_name (pv 1))) (qae_cons (qe_op o_add m_add (qe (qf_name (pv 2))) (qe_fz (qo_callM F__law_next (hr.mono (by decide)) rfl (pv 0) (qae_cons (qe (qf_op o_sub m_sub (qv qf_int) (qv (qf_name (pv 2))))) qae_nil)))) qae_nil)))) qae_nil))))))))
  (qss_one (qs_ret (qe (qf_callTy (c_tuple rfl) m_tuple rfl T.tuple_ boot_tuple (qav_cons (qv_name (pv 3)) qav_nil)))))))
theorem sc__law_closure : FnScope ["deps", "columns", "found", "turn", "column", "left", "right"] ["deps", "columns"] (defScope st__law_closure) := ⟨rfl, rfl, rfl, by decide +kernel, rfl, by decide +kernel, by decide +kernel⟩
theorem b__law_closure (T : Tx mg) (f : Addr) (cdv : Value) (A : Around) (outer : List Env) (s : Shared) (H : Hp) (E : XK) (hr : Room 1 (A.deeper (envOfC "_law_closure" (defScope st__law_closure) s.heap.objs.size f cdv))) :
    QSs (cxOf CX0 P w K mg base ["deps", "columns", "found", "turn", "column", "left", "right"] "_law_closure" (defScope st__law_closure) f cdv A outer s H E).nox [] (defBody st__law_closure) W__law_closure :=
  (qss_cons (qs_set (i := 2) sc__law_closure.nd rfl (by first | exact Or.inl rfl | exact Or.inr rfl) (qe_fz (qo_lc (own := [("column", 4)]) rfl sc__law_closure.nd (qi_seq (qe (qf_name (pv 1)))) (blkOk_by rfl) (fun _ _ _ _ _ => (qg_name (i := 4) sc__law_closure.nd rfl (by first | exact Or.inl rfl | exact Or.inr rfl))) (fun _ _ _ _ _ => qts_nil) (fun _ _ _ _ _ => (qe (qf_name (pv 4)))))))
  (qss_cons (qs_for PassesOwn.never rfl (qi_range1 rfl T.range_ (qae_cons (qe (qf_op o_add m_add (qv (qf_callB c_len m_len rfl T.len_ boot_len (qav_cons (qv (qf_name (pv 0))) qav_nil))) (qv qf_int))) qae_nil)) (qg_name (i := 3) sc__law_closure.nd rfl (by first | exact Or.inl rfl | exact Or.inr rfl))
    (qss_one (qs_for PassesOwn.never rfl (qi_seq (qe (qf_name (pv 0)))) (qg_tup rfl (qgs_cons (qg_name (i := 5) sc__law_closure.nd rfl (by first | exact Or.inl rfl | exact Or.inr rfl)) (qgs_cons (qg_name (i := 6) sc__law_closure.nd rfl (by first | exact Or.inl rfl | exact Or.inr rfl)) qgs_nil)))
      (qss_one (qs_if (qte (qt_cmp (o_eq hr.units) m_eq (qv (qf_dn (qe_fz (qo_lc (own := [("column", 4)]) rfl sc__law_closure.nd (qi_seq (qe (qf_name (pv 5)))) (blkOk_by rfl) (fun _ _ _ _ _ => (qg_name (i := 4) sc__law_closure.nd rfl (by first | exact Or.inl rfl | exact Or.inr rfl))) (fun _ _ _ _ _ => (qts_one (qte (qt_cmp (o_notIn hr.units) m_notIn (qv (qf_name (pv 4))) (qv (qf_name (pv 2))) (by with_unfolding_all rfl))))) (fun _ _ _ _ _ => (qe (qf_name (pv 4)))))))) (qv (qf_lst qaf_nil)) (nomark _)))
        (qss_one (qs_set (i := 2) sc__law_closure.nd rfl (by first | exact Or.inl rfl | exact Or.inr rfl) (qe (qf_op o_add m_add (qv (qf_name (pv 2))) (qv (qf_dn (qe_fz (qo_lc (own := [("column", 4)]) rfl sc__law_closure.nd (qi_seq (qe (qf_name (pv 6)))) (blkOk_by rfl) (fun _ _ _ _ _ => (qg_name (i := 4) sc__law_closure.nd rfl (by first | exact Or.inl rfl | exact Or.inr rfl))) (fun _ _ _ _ _ => (qts_one (qte (qt_cmp (o_notIn hr.units) m_notIn (qv (qf_name (pv 4))) (qv (qf_name (pv 2))) (by with_unfolding_all rfl))))) (fun _ _ _ _ _ => (qe (qf_name (pv 4))))))))))))
        qss_nil)))))
  (qss_one (qs_ret (qe (qf_callTy (c_tuple rfl) m_tuple rfl T.tuple_ boot_tuple (qav_cons (qv (qf_callB (c_sorted rfl hr.units) m_sorted rfl T.sorted_ boot_sorted (qav_cons (qv (qf_dn (qe_fz (qo_lc (own := [("column", 4)]) rfl sc__law_closure.nd (qi_seq (qe (qf_name (pv 2)))) (blkOk_by rfl) (fun _ _ _ _ _ => (qg_name (i := 4) sc__law_closure.nd rfl (by first | exact Or.inl rfl | exact Or.inr rfl))) (fun _ _ _ _ _ => qts_nil) (fun _ _ _ _ _ => (qe (qf_callTy c_str m_str rfl T.str_ boot_str (qav_cons (qv (qf_name (pv 4))) qav_nil)))))))) qav_nil))) qav_nil)))))))
theorem sc__law_holds : FnScope ["deps", "dep", "led", "column"] ["deps", "dep"] (defScope st__law_holds) := ⟨rfl, rfl, rfl, by decide +kernel, rfl, by decide +kernel, by decide +kernel⟩
theorem b__law_holds (T : Tx mg) (F__law_closure : FnP P w K mg base "_law_closure" 2 ["deps", "columns"] (spF ⟨P, w, K⟩ 2 (S__law_closure))) (f : Addr) (cdv : Value) (A : Around) (outer : List Env) (s : Shared) (H : Hp) (E : XK) (hr : Room 3 (A.deeper (envOfC "_law_holds" (defScope st__law_holds) s.heap.objs.size f cdv))) :
    QSs (cxOf CX0 P w K mg base ["deps", "dep", "led", "column"] "_law_holds" (defScope st__law_holds) f cdv A outer s H E).nox [] (defBody st__law_holds) W__law_holds :=
  (qss_cons (qs_set (i := 2) sc__law_holds.nd rfl (by first | exact Or.inl rfl | exact Or.inr rfl) (qe_fz (qo_call F__law_closure (hr.mono (by decide)) rfl (qae_cons (qe (qf_name (pv 0))) (qae_cons (qe (qf_ix (i_idx hr.units) m_idx (qv (qf_name (pv 1))) (qv qf_int) (fun _ _ => rfl))) qae_nil)))))
  (qss_one (qs_ret (qe (qf_cmp (o_eq hr.units) m_eq (qv (qf_dn (qe_fz (qo_lc (own := [("column", 3)]) rfl sc__law_holds.nd (qi_seq (qe (qf_ix (i_idx hr.units) m_idx (qv (qf_name (pv 1))) (qv qf_int) (fun _ _ => rfl)))) (blkOk_by rfl) (fun _ _ _ _ _ => (qg_name (i := 3) sc__law_holds.nd rfl (by first | exact Or.inl rfl | exact Or.inr rfl))) (fun _ _ _ _ _ => (qts_one (qte (qt_cmp (o_notIn hr.units) m_notIn (qv (qf_name (pv 3))) (qv (qf_name (pv 2))) (by with_unfolding_all rfl))))) (fun _ _ _ _ _ => (qe (qf_name (pv 3)))))))) (qv (qf_lst qaf_nil)) (nomark _))))))
theorem sc__law_columns : FnScope ["deps", "dep", "found", "left", "right", "column"] ["deps", "dep"] (defScope st__law_columns) := ⟨rfl, rfl, rfl, by decide +kernel, rfl, by decide +kernel, by decide +kernel⟩
theorem b__law_columns (T : Tx mg) (f : Addr) (cdv : Value) (A : Around) (outer : List Env) (s : Shared) (H : Hp) (E : XK) (hr : Room 1 (A.deeper (envOfC "_law_columns" (defScope st__law_columns) s.heap.objs.size f cdv))) :
    QSs (cxOf CX0 P w K mg base ["deps", "dep", "found", "left", "right", "column"] "_law_columns" (defScope st__law_columns) f cdv A outer s H E).nox [] (defBody st__law_columns) W__law_columns :=
  (qss_cons (qs_set (i := 2) sc__law_columns.nd rfl (by first | exact Or.inl rfl | exact Or.inr rfl) (qe (qf_op o_add m_add (qv (qf_callTy (c_list rfl) m_list rfl T.list_ boot_list (qav_cons (qv (qf_ix (i_idx hr.units) m_idx (qv (qf_name (pv 1))) (qv qf_int) (fun _ _ => rfl))) qav_nil))) (qv (qf_callTy (c_list rfl) m_list rfl T.list_ boot_list (qav_cons (qv (qf_ix (i_idx hr.units) m_idx (qv (qf_name (pv 1))) (qv qf_int) (fun _ _ => rfl))) qav_nil))))))
  (qss_cons (qs_for PassesOwn.never rfl (qi_seq (qe (qf_name (pv 0)))) (qg_tup rfl (qgs_cons (qg_name (i := 3) sc__law_columns.nd rfl (by first | exact Or.inl rfl | exact Or.inr rfl)) (qgs_cons (qg_name (i := 4) sc__law_columns.nd rfl (by first | exact Or.inl rfl | exact Or.inr rfl)) qgs_nil)))
    (qss_one (qs_set (i := 2) sc__law_columns.nd rfl (by first | exact Or.inl rfl | exact Or.inr rfl) (qe (qf_op o_add m_add (qv (qf_op o_add m_add (qv (qf_name (pv 2))) (qv (qf_callTy (c_list rfl) m_list rfl T.list_ boot_list (qav_cons (qv (qf_name (pv 3))) qav_nil))))) (qv (qf_callTy (c_list rfl) m_list rfl T.list_ boot_list (qav_cons (qv (qf_name (pv 4))) qav_nil))))))))
  (qss_one (qs_ret (qe_fz (qo_lc (own := [("column", 5)]) rfl sc__law_columns.nd (qi_seq (qe (qf_lst (qaf_cons qf_str (qaf_cons qf_str (qaf_cons qf_str (qaf_cons qf_str (qaf_cons qf_str (qaf_cons qf_str qaf_nil))))))))) (blkOk_by rfl) (fun _ _ _ _ _ => (qg_name (i := 5) sc__law_columns.nd rfl (by first | exact Or.inl rfl | exact Or.inr rfl))) (fun _ _ _ _ _ => (qts_one (qte (qt_cmp (o_in hr.units) m_in (qv (qf_name (pv 5))) (qv (qf_name (pv 2))) (by with_unfolding_all rfl))))) (fun _ _ _ _ _ => (qe (qf_name (pv 5))))))))))
theorem sc__law_leads : FnScope ["deps", "dep", "steps", "had", "met", "step", "one"] ["deps", "dep", "steps"] (defScope st__law_leads) := ⟨rfl, rfl, rfl, by decide +kernel, rfl, by decide +kernel, by decide +kernel⟩
theorem b__law_leads (T : Tx mg) (f : Addr) (cdv : Value) (A : Around) (outer : List Env) (s : Shared) (H : Hp) (E : XK) (hr : Room 1 (A.deeper (envOfC "_law_leads" (defScope st__law_leads) s.heap.objs.size f cdv))) :
    QSs (cxOf CX0 P w K mg base ["deps", "dep", "steps", "had", "met", "step", "one"] "_law_leads" (defScope st__law_leads) f cdv A outer s H E).nox [] (defBody st__law_leads) W__law_leads :=
  (qss_cons (qs_set (i := 3) sc__law_leads.nd rfl (by first | exact Or.inl rfl | exact Or.inr rfl) (qe (qf_callTy (c_list rfl) m_list rfl T.list_ boot_list (qav_cons (qv (qf_ix (i_idx hr.units) m_idx (qv (qf_name (pv 1))) (qv qf_int) (fun _ _ => rfl))) qav_nil))))
  (qss_cons (qs_setO (i := 4) sc__law_leads.nd rfl (by first | exact Or.inl rfl | exact Or.inr rfl) (qo_lst qae_nil))
  (qss_cons (qs_for PassesOwn.never rfl (qi_seq (qe (qf_name (pv 2)))) (qg_name (i := 5) sc__law_leads.nd rfl (by first | exact Or.inl rfl | exact Or.inr rfl))
    (qss_cons (qs_if (qte (qt_w (qw_or (qt_cmp (o_lt hr.units) m_lt (qv (qf_name (pv 5))) (qv qf_int) (nomark _)) (qw_or (qt_cmp (o_ge hr.units) m_ge (qv (qf_name (pv 5))) (qv (qf_callB c_len m_len rfl T.len_ boot_len (qav_cons (qv (qf_name (pv 0))) qav_nil))) (nomark _)) (qw_or (qt_cmp (o_in hr.units) m_in (qv (qf_name (pv 5))) (qv_name (pv 4)) (by with_unfolding_all rfl)) (qw_or1 (qt_cmp (o_ne hr.units) m_ne (qv (qf_dn (qe_fz (qo_lc (own := [("one", 6)]) rfl sc__law_leads.nd (qi_seq (qe (qf_ix (i_idx hr.units) m_idx (qv (qf_ix (i_idx hr.units) m_idx (qv (qf_name (pv 0))) (qv (qf_name (pv 5))) (fun _ _ => rfl))) (qv qf_int) (fun _ _ => rfl)))) (blkOk_by rfl) (fun _ _ _ _ _ => (qg_name (i := 6) sc__law_leads.nd rfl (by first | exact Or.inl rfl | exact Or.inr rfl))) (fun _ _ _ _ _ => (qts_one (qte (qt_cmp (o_notIn hr.units) m_notIn (qv (qf_name (pv 6))) (qv (qf_name (pv 3))) (by with_unfolding_all rfl))))) (fun _ _ _ _ _ => (qe (qf_name (pv 6)))))))) (qv (qf_lst qaf_nil)) (nomark _))))))))
      (qss_one (qs_ret (qe qf_bl)))
      qss_nil)
    (qss_cons (qs_expr (qe_append (pv 4) (qe (qf_name (pv 5)))))
    (qss_one (qs_set (i := 3) sc__law_leads.nd rfl (by first | exact Or.inl rfl | exact Or.inr rfl) (qe (qf_op o_add m_add (qv (qf_name (pv 3))) (qv (qf_callTy (c_list rfl) m_list rfl T.list_ boot_list (qav_cons (qv (qf_ix (i_idx hr.units) m_idx (qv (qf_ix (i_idx hr.units) m_idx (qv (qf_name (pv 0))) (qv (qf_name (pv 5))) (fun _ _ => rfl))) (qv qf_int) (fun _ _ => rfl))) qav_nil))))))))))
  (qss_one (qs_ret (qe (qf_cmp (o_eq hr.units) m_eq (qv (qf_dn (qe_fz (qo_lc (own := [("one", 6)]) rfl sc__law_leads.nd (qi_seq (qe (qf_ix (i_idx hr.units) m_idx (qv (qf_name (pv 1))) (qv qf_int) (fun _ _ => rfl)))) (blkOk_by rfl) (fun _ _ _ _ _ => (qg_name (i := 6) sc__law_leads.nd rfl (by first | exact Or.inl rfl | exact Or.inr rfl))) (fun _ _ _ _ _ => (qts_one (qte (qt_cmp (o_notIn hr.units) m_notIn (qv (qf_name (pv 6))) (qv (qf_name (pv 3))) (by with_unfolding_all rfl))))) (fun _ _ _ _ _ => (qe (qf_name (pv 6)))))))) (qv (qf_lst qaf_nil)) (nomark _))))))))
theorem sc__law_agree : FnScope ["columns", "one", "other", "some", "k"] ["columns", "one", "other", "some"] (defScope st__law_agree) := ⟨rfl, rfl, rfl, by decide +kernel, rfl, by decide +kernel, by decide +kernel⟩
theorem b__law_agree (T : Tx mg) (f : Addr) (cdv : Value) (A : Around) (outer : List Env) (s : Shared) (H : Hp) (E : XK) (hr : Room 1 (A.deeper (envOfC "_law_agree" (defScope st__law_agree) s.heap.objs.size f cdv))) :
    QSs (cxOf CX0 P w K mg base ["columns", "one", "other", "some", "k"] "_law_agree" (defScope st__law_agree) f cdv A outer s H E).nox [] (defBody st__law_agree) W__law_agree :=
  (qss_one (qs_ret (qe (qf_cmp (o_eq hr.units) m_eq (qv (qf_dn (qe_fz (qo_lc (own := [("k", 4)]) rfl sc__law_agree.nd (qi_range1 rfl T.range_ (qae_cons (qe (qf_callB c_len m_len rfl T.len_ boot_len (qav_cons (qv (qf_name (pv 0))) qav_nil))) qae_nil)) (blkOk_by rfl) (fun _ _ _ _ _ => (qg_name (i := 4) sc__law_agree.nd rfl (by first | exact Or.inl rfl | exact Or.inr rfl))) (fun _ _ _ _ _ => (qts_one (qte (qt_w (qw_and (qt_cmp (o_in hr.units) m_in (qv (qf_ix (i_idx hr.units) m_idx (qv (qf_name (pv 0))) (qv (qf_name (pv 4))) (fun _ _ => rfl))) (qv (qf_name (pv 3))) (by with_unfolding_all rfl)) (qw_and1 (qt_cmp (o_ne hr.units) m_ne (qv (qf_ix (i_idx hr.units) m_idx (qv (qf_name (pv 1))) (qv (qf_name (pv 4))) (fun _ _ => rfl))) (qv (qf_ix (i_idx hr.units) m_idx (qv (qf_name (pv 2))) (qv (qf_name (pv 4))) (fun _ _ => rfl))) (nomark _)))))))) (fun _ _ _ _ _ => (qe (qf_name (pv 4)))))))) (qv (qf_lst qaf_nil)) (nomark _)))))
theorem sc__law_breaks : FnScope ["deps", "dep", "one", "other", "columns", "left", "right"] ["deps", "dep", "one", "other"] (defScope st__law_breaks) := ⟨rfl, rfl, rfl, by decide +kernel, rfl, by decide +kernel, by decide +kernel⟩
theorem b__law_breaks (T : Tx mg) (F__law_columns : FnP P w K mg base "_law_columns" 2 ["deps", "dep"] (spF ⟨P, w, K⟩ 2 (S__law_columns))) (F__law_agree : FnP P w K mg base "_law_agree" 2 ["columns", "one", "other", "some"] (spF ⟨P, w, K⟩ 4 (S__law_agree))) (f : Addr) (cdv : Value) (A : Around) (outer : List Env) (s : Shared) (H : Hp) (E : XK) (hr : Room 3 (A.deeper (envOfC "_law_breaks" (defScope st__law_breaks) s.heap.objs.size f cdv))) :
    QSs (cxOf CX0 P w K mg base ["deps", "dep", "one", "other", "columns", "left", "right"] "_law_breaks" (defScope st__law_breaks) f cdv A outer s H E).nox [] (defBody st__law_breaks) W__law_breaks :=
  (qss_cons (qs_set (i := 4) sc__law_breaks.nd rfl (by first | exact Or.inl rfl | exact Or.inr rfl) (qe_fz (qo_call F__law_columns (hr.mono (by decide)) rfl (qae_cons (qe (qf_name (pv 0))) (qae_cons (qe (qf_name (pv 1))) qae_nil)))))
  (qss_cons (qs_for PassesOwn.never rfl (qi_seq (qe (qf_name (pv 0)))) (qg_tup rfl (qgs_cons (qg_name (i := 5) sc__law_breaks.nd rfl (by first | exact Or.inl rfl | exact Or.inr rfl)) (qgs_cons (qg_name (i := 6) sc__law_breaks.nd rfl (by first | exact Or.inl rfl | exact Or.inr rfl)) qgs_nil)))
    (qss_one (qs_if (qte (qt_w (qw_and (qt_val (qv (qf_dn (qe_fz (qo_call F__law_agree (hr.mono (by decide)) rfl (qae_cons (qe (qf_name (pv 4))) (qae_cons (qe (qf_name (pv 2))) (qae_cons (qe (qf_name (pv 3))) (qae_cons (qe (qf_name (pv 5))) qae_nil))))))))) (qw_and1 (qt_not (qt_val (qv (qf_dn (qe_fz (qo_call F__law_agree (hr.mono (by decide)) rfl (qae_cons (qe (qf_name (pv 4))) (qae_cons (qe (qf_name (pv 2))) (qae_cons (qe (qf_name (pv 3))) (qae_cons (qe (qf_name (pv 6))) qae_nil))))))))))))))
      (qss_one (qs_ret (qe qf_bl)))
      qss_nil)))
  (qss_one (qs_ret (qe (qf_and (qf_dn (qe_fz (qo_call F__law_agree (hr.mono (by decide)) rfl (qae_cons (qe (qf_name (pv 4))) (qae_cons (qe (qf_name (pv 2))) (qae_cons (qe (qf_name (pv 3))) (qae_cons (qe (qf_ix (i_idx hr.units) m_idx (qv (qf_name (pv 1))) (qv qf_int) (fun _ _ => rfl))) qae_nil))))))) (qf_one (qf_not (qf_dn (qe_fz (qo_call F__law_agree (hr.mono (by decide)) rfl (qae_cons (qe (qf_name (pv 4))) (qae_cons (qe (qf_name (pv 2))) (qae_cons (qe (qf_name (pv 3))) (qae_cons (qe (qf_ix (i_idx hr.units) m_idx (qv (qf_name (pv 1))) (qv qf_int) (fun _ _ => rfl))) qae_nil)))))))))))))))
theorem sc__law_is_row : FnScope ["row", "many", "most", "one"] ["row", "many", "most"] (defScope st__law_is_row) := ⟨rfl, rfl, rfl, by decide +kernel, rfl, by decide +kernel, by decide +kernel⟩
theorem b__law_is_row (T : Tx mg) (f : Addr) (cdv : Value) (A : Around) (outer : List Env) (s : Shared) (H : Hp) (E : XK) (hr : Room 1 (A.deeper (envOfC "_law_is_row" (defScope st__law_is_row) s.heap.objs.size f cdv))) :
    QSs (cxOf CX0 P w K mg base ["row", "many", "most", "one"] "_law_is_row" (defScope st__law_is_row) f cdv A outer s H E).nox [] (defBody st__law_is_row) W__law_is_row :=
  (qss_cons (qs_if (qte (qt_w (qw_or (qt_not (qt_val (qv (qf_isi rfl T.isinstance_ (qv (qf_name (pv 0))) rfl T.tuple_ boot_tuple)))) (qw_or1 (qt_w (qw_and (qt_cmp (o_ge hr.units) m_ge (qv (qf_name (pv 1))) (qv qf_int) (nomark _)) (qw_and1 (qt_cmp (o_ne hr.units) m_ne (qv (qf_callB c_len m_len rfl T.len_ boot_len (qav_cons (qv (qf_name (pv 0))) qav_nil))) (qv (qf_name (pv 1))) (nomark _)))))))))
    (qss_one (qs_ret (qe qf_bl)))
    qss_nil)
  (qss_one (qs_ret (qe (qf_cmp (o_eq hr.units) m_eq (qv (qf_dn (qe_fz (qo_lc (own := [("one", 3)]) rfl sc__law_is_row.nd (qi_seq (qe (qf_name (pv 0)))) (blkOk_by rfl) (fun _ _ _ _ _ => (qg_name (i := 3) sc__law_is_row.nd rfl (by first | exact Or.inl rfl | exact Or.inr rfl))) (fun _ _ _ _ _ => (qts_one (qte (qt_w (qw_or (qt_not (qt_val (qv (qf_isi rfl T.isinstance_ (qv (qf_name (pv 3))) rfl T.int_ boot_int)))) (qw_or (qt_val (qv (qf_isi rfl T.isinstance_ (qv (qf_name (pv 3))) rfl T.bool_ boot_bool))) (qw_or (qt_cmp (o_lt hr.units) m_lt (qv (qf_name (pv 3))) (qv qf_int) (nomark _)) (qw_or1 (qt_cmp (o_ge hr.units) m_ge (qv (qf_name (pv 3))) (qv (qf_name (pv 2))) (nomark _)))))))))) (fun _ _ _ _ _ => (qe (qf_name (pv 3)))))))) (qv (qf_lst qaf_nil)) (nomark _))))))
theorem sc__law_is_told : FnScope ["deps", "dep", "told", "many", "one", "other"] ["deps", "dep", "told"] (defScope st__law_is_told) := ⟨rfl, rfl, rfl, by decide +kernel, rfl, by decide +kernel, by decide +kernel⟩
theorem b__law_is_told (T : Tx mg) (F__law_holds : FnP P w K mg base "_law_holds" 4 ["deps", "dep"] (spF ⟨P, w, K⟩ 2 (S__law_holds))) (F__law_alike : FnP P w K mg base "_law_alike" 12 ["told", "due"] (spF ⟨P, w, K⟩ 2 (S__law_alike 5))) (F__law_is_row : FnP P w K mg base "_law_is_row" 2 ["row", "many", "most"] (spF ⟨P, w, K⟩ 3 (S__law_is_row))) (F__law_leads : FnP P w K mg base "_law_leads" 2 ["deps", "dep", "steps"] (spF ⟨P, w, K⟩ 3 (S__law_leads))) (F__law_columns : FnP P w K mg base "_law_columns" 2 ["deps", "dep"] (spF ⟨P, w, K⟩ 2 (S__law_columns))) (F__law_breaks : FnP P w K mg base "_law_breaks" 4 ["deps", "dep", "one", "other"] (spF ⟨P, w, K⟩ 4 (S__law_breaks))) (f : Addr) (cdv : Value) (A : Around) (outer : List Env) (s : Shared) (H : Hp) (E : XK) (hr : Room 29 (A.deeper (envOfC "_law_is_told" (defScope st__law_is_told) s.heap.objs.size f cdv))) :
    QSs (cxOf CX0 P w K mg base ["deps", "dep", "told", "many", "one", "other"] "_law_is_told" (defScope st__law_is_told) f cdv A outer s H E).nox [] (defBody st__law_is_told) W__law_is_told :=
  (qss_cons (qs_if (qte (qt_w (qw_or (qt_not (qt_val (qv (qf_isi rfl T.isinstance_ (qv (qf_name (pv 2))) rfl T.tuple_ boot_tuple)))) (qw_or1 (qt_cmp (o_ne hr.units) m_ne (qv (qf_callB c_len m_len rfl T.len_ boot_len (qav_cons (qv (qf_name (pv 2))) qav_nil))) (qv qf_int) (nomark _))))))
    (qss_one (qs_ret (qe qf_bl)))
    qss_nil)
  (qss_cons (qs_if (qte (qt_val (qv (qf_dn (qe_fz (qo_call F__law_holds (hr.mono (by decide)) rfl (qae_cons (qe (qf_name (pv 0))) (qae_cons (qe (qf_name (pv 1))) qae_nil))))))))
    (qss_one (qs_ret (qe (qf_and (qf_dn (qe_fz (qo_call F__law_alike (hr.mono (by decide)) rfl (qae_cons (qe (qf_ix (i_idx hr.units) m_idx (qv (qf_name (pv 2))) (qv qf_int) (fun _ _ => rfl))) (qae_cons (qe qf_str) qae_nil))))) (qf_and (qf_dn (qe_fz (qo_call F__law_is_row (hr.mono (by decide)) rfl (qae_cons (qe (qf_ix (i_idx hr.units) m_idx (qv (qf_name (pv 2))) (qv qf_int) (fun _ _ => rfl))) (qae_cons (qe (qf_un o_neg m_neg (qv qf_int))) (qae_cons (qe (qf_callB (c_max rfl) m_max rfl T.max_ boot_max (qav_cons (qv qf_int) (qav_cons (qv (qf_callB c_len m_len rfl T.len_ boot_len (qav_cons (qv (qf_name (pv 0))) qav_nil))) qav_nil)))) qae_nil)))))) (qf_one (qf_dn (qe_fz (qo_call F__law_leads (hr.mono (by decide)) rfl (qae_cons (qe (qf_name (pv 0))) (qae_cons (qe (qf_name (pv 1))) (qae_cons (qe (qf_ix (i_idx hr.units) m_idx (qv (qf_name (pv 2))) (qv qf_int) (fun _ _ => rfl))) qae_nil))))))))))))
    qss_nil)
  (qss_cons (qs_if (qte (qt_w (qw_or (qt_not (qt_val (qv (qf_dn (qe_fz (qo_call F__law_alike (hr.mono (by decide)) rfl (qae_cons (qe (qf_ix (i_idx hr.units) m_idx (qv (qf_name (pv 2))) (qv qf_int) (fun _ _ => rfl))) (qae_cons (qe qf_str) qae_nil)))))))) (qw_or (qt_not (qt_val (qv (qf_isi rfl T.isinstance_ (qv (qf_ix (i_idx hr.units) m_idx (qv (qf_name (pv 2))) (qv qf_int) (fun _ _ => rfl))) rfl T.tuple_ boot_tuple)))) (qw_or1 (qt_cmp (o_ne hr.units) m_ne (qv (qf_callB c_len m_len rfl T.len_ boot_len (qav_cons (qv (qf_ix (i_idx hr.units) m_idx (qv (qf_name (pv 2))) (qv qf_int) (fun _ _ => rfl))) qav_nil))) (qv qf_int) (nomark _)))))))
    (qss_one (qs_ret (qe qf_bl)))
    qss_nil)
  (qss_cons (qs_asg (qe (qf_ix (i_idx hr.units) m_idx (qv (qf_name (pv 2))) (qv qf_int) (fun _ _ => rfl))) (qg_tup rfl (qgs_cons (qg_name (i := 4) sc__law_is_told.nd rfl (by first | exact Or.inl rfl | exact Or.inr rfl)) (qgs_cons (qg_name (i := 5) sc__law_is_told.nd rfl (by first | exact Or.inl rfl | exact Or.inr rfl)) qgs_nil))))
  (qss_cons (qs_set (i := 3) sc__law_is_told.nd rfl (by first | exact Or.inl rfl | exact Or.inr rfl) (qe (qf_callB c_len m_len rfl T.len_ boot_len (qav_cons (qv (qf_dn (qe_fz (qo_call F__law_columns (hr.mono (by decide)) rfl (qae_cons (qe (qf_name (pv 0))) (qae_cons (qe (qf_name (pv 1))) qae_nil)))))) qav_nil))))
  (qss_one (qs_ret (qe (qf_and (qf_dn (qe_fz (qo_call F__law_is_row (hr.mono (by decide)) rfl (qae_cons (qe (qf_name (pv 4))) (qae_cons (qe (qf_name (pv 3))) (qae_cons (qe qf_int) qae_nil)))))) (qf_and (qf_dn (qe_fz (qo_call F__law_is_row (hr.mono (by decide)) rfl (qae_cons (qe (qf_name (pv 5))) (qae_cons (qe (qf_name (pv 3))) (qae_cons (qe qf_int) qae_nil)))))) (qf_one (qf_dn (qe_fz (qo_call F__law_breaks (hr.mono (by decide)) rfl (qae_cons (qe (qf_name (pv 0))) (qae_cons (qe (qf_name (pv 1))) (qae_cons (qe (qf_name (pv 4))) (qae_cons (qe (qf_name (pv 5))) qae_nil))))))))))))))))))
theorem sc_law : FnScope ["script", "w", "turn", "columns", "deps", "some", "dep", "told", "many", "k", "steps", "one", "other", "j", "bit"] ["script"] (defScope st_law) := ⟨rfl, rfl, rfl, by decide +kernel, rfl, by decide +kernel, by decide +kernel⟩
theorem b_law (T : Tx mg) (F__law_draws : FnP P w K mg base "_law_draws" 2 ["script", "many"] (spM ⟨P, w, K⟩ 1 (S__law_draws))) (F__law_next : FnP P w K mg base "_law_next" 2 ["w", "many"] (spM ⟨P, w, K⟩ 1 (S__law_next))) (F__law_deps : FnP P w K mg base "_law_deps" 8 ["w", "columns", "least"] (spM ⟨P, w, K⟩ 2 (S__law_deps))) (F__law_some : FnP P w K mg base "_law_some" 6 ["w", "columns", "most"] (spM ⟨P, w, K⟩ 2 (S__law_some))) (F__law_alike : FnP P w K mg base "_law_alike" 12 ["told", "due"] (spF ⟨P, w, K⟩ 2 (S__law_alike 5))) (F_closure : FnP P w K mg base "closure" 4 ["deps", "columns"] (spF ⟨P, w, K⟩ 2 (S_closure))) (F__law_closure : FnP P w K mg base "_law_closure" 2 ["deps", "columns"] (spF ⟨P, w, K⟩ 2 (S__law_closure))) (F_follows : FnP P w K mg base "follows" 8 ["deps", "dep"] (spF ⟨P, w, K⟩ 2 (S_follows))) (F__law_is_told : FnP P w K mg base "_law_is_told" 30 ["deps", "dep", "told"] (spF ⟨P, w, K⟩ 3 (S__law_is_told))) (F__law_columns : FnP P w K mg base "_law_columns" 2 ["deps", "dep"] (spF ⟨P, w, K⟩ 2 (S__law_columns))) (F__law_holds : FnP P w K mg base "_law_holds" 4 ["deps", "dep"] (spF ⟨P, w, K⟩ 2 (S__law_holds))) (F_is_leading : FnP P w K mg base "is_leading" 6 ["deps", "dep", "steps"] (spF ⟨P, w, K⟩ 3 (S_is_leading))) (F__law_leads : FnP P w K mg base "_law_leads" 2 ["deps", "dep", "steps"] (spF ⟨P, w, K⟩ 3 (S__law_leads))) (F_is_breaking : FnP P w K mg base "is_breaking" 6 ["deps", "dep", "one", "other"] (spF ⟨P, w, K⟩ 4 (S_is_breaking))) (F__law_breaks : FnP P w K mg base "_law_breaks" 4 ["deps", "dep", "one", "other"] (spF ⟨P, w, K⟩ 4 (S__law_breaks))) (f : Addr) (cdv : Value) (A : Around) (outer : List Env) (s : Shared) (H : Hp) (E : XK) (v : V) (hr : Room 39 (A.deeper (envOfC "law" (defScope st_law) s.heap.objs.size f cdv))) :
    QSs (cxOf CX0 P w K mg base ["script", "w", "turn", "columns", "deps", "some", "dep", "told", "many", "k", "steps", "one", "other", "j", "bit"] "law" (defScope st_law) f cdv A outer s H E).nox [(0, v)] (defBody st_law) W_law :=
  (qss_cons (qs_setO (i := 1) sc_law.nd rfl (by first | exact Or.inl rfl | exact Or.inr rfl) (qo_disp (dps_cons (qe qf_str) (qe_fz (qo_callM F__law_draws (hr.mono (by decide)) rfl (pv 0) (qae_cons (qe qf_int) qae_nil))) (dps_cons (qe qf_str) (qe qf_int) dps_nil)) rfl rfl (by decide) (by decide)))
  (qss_cons (qs_for PassesOwn.never rfl (qi_range1 rfl T.range_ (qae_cons (qe qf_int) qae_nil)) (qg_name (i := 2) sc_law.nd rfl (by first | exact Or.inl rfl | exact Or.inr rfl))
    (qss_cons (qs_set (i := 3) sc_law.nd rfl (by first | exact Or.inl rfl | exact Or.inr rfl) (qe_slice (qe (qf_tup (qaf_cons qf_str (qaf_cons qf_str (qaf_cons qf_str (qaf_cons qf_str (qaf_cons qf_str (qaf_cons qf_str qaf_nil)))))))) qpe_no (qpe_some (qe_op o_add m_add (qe qf_int) (qe_fz (qo_callM F__law_next (hr.mono (by decide)) rfl (pv 1) (qae_cons (qe qf_int) qae_nil)))))))
    (qss_cons (qs_set (i := 4) sc_law.nd rfl (by first | exact Or.inl rfl | exact Or.inr rfl) (qe_fz (qo_callM F__law_deps (hr.mono (by decide)) rfl (pv 1) (qae_cons (qe (qf_name (pv 3))) (qae_cons (qe qf_int) qae_nil)))))
    (qss_cons (qs_set (i := 5) sc_law.nd rfl (by first | exact Or.inl rfl | exact Or.inr rfl) (qe_fz (qo_callM F__law_some (hr.mono (by decide)) rfl (pv 1) (qae_cons (qe (qf_name (pv 3))) (qae_cons (qe qf_int) qae_nil)))))
    (qss_cons (qs_if (qte (qt_not (qt_val (qv (qf_dn (qe_fz (qo_call F__law_alike (hr.mono (by decide)) rfl (qae_cons (qe (qf_dn (qe_fz (qo_call F_closure (hr.mono (by decide)) rfl (qae_cons (qe (qf_name (pv 4))) (qae_cons (qe (qf_name (pv 5))) qae_nil)))))) (qae_cons (qe (qf_dn (qe_fz (qo_call F__law_closure (hr.mono (by decide)) rfl (qae_cons (qe (qf_name (pv 4))) (qae_cons (qe (qf_name (pv 5))) qae_nil)))))) qae_nil)))))))))
      (qss_one (qs_ret (qe qf_bl)))
      qss_nil)
    (qss_cons (qs_set (i := 6) sc_law.nd rfl (by first | exact Or.inl rfl | exact Or.inr rfl) (qe_tup (qae_cons (qe_fz (qo_callM F__law_some (hr.mono (by decide)) rfl (pv 1) (qae_cons (qe (qf_name (pv 3))) (qae_cons (qe qf_int) qae_nil)))) (qae_cons (qe_fz (qo_callM F__law_some (hr.mono (by decide)) rfl (pv 1) (qae_cons (qe (qf_name (pv 3))) (qae_cons (qe qf_int) qae_nil)))) qae_nil))))
    (qss_cons (qs_set (i := 7) sc_law.nd rfl (by first | exact Or.inl rfl | exact Or.inr rfl) (qe_fz (qo_call F_follows (hr.mono (by decide)) rfl (qae_cons (qe (qf_name (pv 4))) (qae_cons (qe (qf_name (pv 6))) qae_nil)))))
    (qss_cons (qs_if (qte (qt_not (qt_val (qv (qf_dn (qe_fz (qo_call F__law_is_told (hr.mono (by decide)) rfl (qae_cons (qe (qf_name (pv 4))) (qae_cons (qe (qf_name (pv 6))) (qae_cons (qe (qf_name (pv 7))) qae_nil))))))))))
      (qss_one (qs_ret (qe qf_bl)))
      qss_nil)
    (qss_cons (qs_set (i := 8) sc_law.nd rfl (by first | exact Or.inl rfl | exact Or.inr rfl) (qe (qf_callB c_len m_len rfl T.len_ boot_len (qav_cons (qv (qf_dn (qe_fz (qo_call F__law_columns (hr.mono (by decide)) rfl (qae_cons (qe (qf_name (pv 4))) (qae_cons (qe (qf_name (pv 6))) qae_nil)))))) qav_nil))))
    (qss_one (qs_for PassesOwn.never rfl (qi_range1 rfl T.range_ (qae_cons (qe qf_int) qae_nil)) (qg_name (i := 9) sc_law.nd rfl (by first | exact Or.inl rfl | exact Or.inr rfl))
      (qss_cons (qs_set (i := 10) sc_law.nd rfl (by first | exact Or.inl rfl | exact Or.inr rfl) (qe_callTy (c_tuple rfl) m_tuple rfl T.tuple_ boot_tuple (qae_cons (qe_fz (qo_lc (own := [("j", 13)]) rfl sc_law.nd (qi_range1 rfl T.range_ (qae_cons (qe_fz (qo_callM F__law_next (hr.mono (by decide)) rfl (pv 1) (qae_cons (qe qf_int) qae_nil))) qae_nil)) (blkOk_by rfl) (fun _ _ _ _ _ => (qg_name (i := 13) sc_law.nd rfl (by first | exact Or.inl rfl | exact Or.inr rfl))) (fun _ _ _ _ _ => qts_nil) (fun _ _ _ _ _ => (qe_op o_sub m_sub (qe_fz (qo_callM F__law_next (hr.mono (by decide)) rfl (pv 1) (qae_cons (qe (qf_op o_add m_add (qv (qf_callB c_len m_len rfl T.len_ boot_len (qav_cons (qv (qf_name (pv 4))) qav_nil))) (qv qf_int))) qae_nil))) (qe_if (qte_cmp (o_eq hr.units) m_eq (qe_fz (qo_callM F__law_next (hr.mono (by decide)) rfl (pv 1) (qae_cons (qe qf_int) qae_nil))) (qe qf_int) (nomark _)) (qe qf_int) (qe qf_int)))))) qae_nil)))
      (qss_cons (qs_if (qte_w (qwe_and (qte (qt_val (qv (qf_dn (qe_fz (qo_call F__law_holds (hr.mono (by decide)) rfl (qae_cons (qe (qf_name (pv 4))) (qae_cons (qe (qf_name (pv 6))) qae_nil)))))))) (qwe_and1 (qte_cmp (o_eq hr.units) m_eq (qe_fz (qo_callM F__law_next (hr.mono (by decide)) rfl (pv 1) (qae_cons (qe qf_int) qae_nil))) (qe qf_int) (nomark _)))))
        (qss_one (qs_set (i := 10) sc_law.nd rfl (by first | exact Or.inl rfl | exact Or.inr rfl) (qe (qf_op o_add m_add (qv (qf_ix (i_idx hr.units) m_idx (qv (qf_name (pv 7))) (qv qf_int) (fun _ _ => rfl))) (qv (qf_slice (qv (qf_name (pv 10))) qp_no (qp_some (qv qf_int))))))))
        qss_nil)
      (qss_cons (qs_if (qte (qt_not (qt_val (qv (qf_dn (qe_fz (qo_call F__law_alike (hr.mono (by decide)) rfl (qae_cons (qe (qf_dn (qe_fz (qo_call F_is_leading (hr.mono (by decide)) rfl (qae_cons (qe (qf_name (pv 4))) (qae_cons (qe (qf_name (pv 6))) (qae_cons (qe (qf_name (pv 10))) qae_nil))))))) (qae_cons (qe (qf_dn (qe_fz (qo_call F__law_leads (hr.mono (by decide)) rfl (qae_cons (qe (qf_name (pv 4))) (qae_cons (qe (qf_name (pv 6))) (qae_cons (qe (qf_name (pv 10))) qae_nil))))))) qae_nil)))))))))
        (qss_one (qs_ret (qe qf_bl)))
        qss_nil)
      (qss_cons (qs_set (i := 11) sc_law.nd rfl (by first | exact Or.inl rfl | exact Or.inr rfl) (qe_callTy (c_tuple rfl) m_tuple rfl T.tuple_ boot_tuple (qae_cons (qe_fz (qo_lc (own := [("j", 13)]) rfl sc_law.nd (qi_range1 rfl T.range_ (qae_cons (qe (qf_name (pv 8))) qae_nil)) (blkOk_by rfl) (fun _ _ _ _ _ => (qg_name (i := 13) sc_law.nd rfl (by first | exact Or.inl rfl | exact Or.inr rfl))) (fun _ _ _ _ _ => qts_nil) (fun _ _ _ _ _ => (qe_fz (qo_callM F__law_next (hr.mono (by decide)) rfl (pv 1) (qae_cons (qe qf_int) qae_nil)))))) qae_nil)))
      (qss_cons (qs_set (i := 12) sc_law.nd rfl (by first | exact Or.inl rfl | exact Or.inr rfl) (qe_callTy (c_tuple rfl) m_tuple rfl T.tuple_ boot_tuple (qae_cons (qe_fz (qo_lc (own := [("bit", 14)]) rfl sc_law.nd (qi_seq (qe (qf_name (pv 11)))) (blkOk_by rfl) (fun _ _ _ _ _ => (qg_name (i := 14) sc_law.nd rfl (by first | exact Or.inl rfl | exact Or.inr rfl))) (fun _ _ _ _ _ => qts_nil) (fun _ _ _ _ _ => (qe_if (qte_cmp (o_gt hr.units) m_gt (qe_fz (qo_callM F__law_next (hr.mono (by decide)) rfl (pv 1) (qae_cons (qe qf_int) qae_nil))) (qe qf_int) (nomark _)) (qe (qf_name (pv 14))) (qe (qf_op o_sub m_sub (qv qf_int) (qv (qf_name (pv 14))))))))) qae_nil)))
      (qss_cons (qs_if (qte_w (qwe_and (qte (qt_not (qt_val (qv (qf_dn (qe_fz (qo_call F__law_holds (hr.mono (by decide)) rfl (qae_cons (qe (qf_name (pv 4))) (qae_cons (qe (qf_name (pv 6))) qae_nil))))))))) (qwe_and1 (qte_cmp (o_eq hr.units) m_eq (qe_fz (qo_callM F__law_next (hr.mono (by decide)) rfl (pv 1) (qae_cons (qe qf_int) qae_nil))) (qe qf_int) (nomark _)))))
        (qss_one (qs_asg (qe (qf_ix (i_idx hr.units) m_idx (qv (qf_name (pv 7))) (qv qf_int) (fun _ _ => rfl))) (qg_tup rfl (qgs_cons (qg_name (i := 11) sc_law.nd rfl (by first | exact Or.inl rfl | exact Or.inr rfl)) (qgs_cons (qg_name (i := 12) sc_law.nd rfl (by first | exact Or.inl rfl | exact Or.inr rfl)) qgs_nil)))))
        qss_nil)
      (qss_one (qs_if (qte (qt_not (qt_val (qv (qf_dn (qe_fz (qo_call F__law_alike (hr.mono (by decide)) rfl (qae_cons (qe (qf_dn (qe_fz (qo_call F_is_breaking (hr.mono (by decide)) rfl (qae_cons (qe (qf_name (pv 4))) (qae_cons (qe (qf_name (pv 6))) (qae_cons (qe (qf_name (pv 11))) (qae_cons (qe (qf_name (pv 12))) qae_nil)))))))) (qae_cons (qe (qf_dn (qe_fz (qo_call F__law_breaks (hr.mono (by decide)) rfl (qae_cons (qe (qf_name (pv 4))) (qae_cons (qe (qf_name (pv 6))) (qae_cons (qe (qf_name (pv 11))) (qae_cons (qe (qf_name (pv 12))) qae_nil)))))))) qae_nil)))))))))
        (qss_one (qs_ret (qe qf_bl)))
        qss_nil)))))))))))))))))))
  (qss_one (qs_ret (qe qf_bl)))))
end
end K60
set_option Elab.async false
set_option linter.all false
set_option maxRecDepth 100000
set_option maxHeartbeats 2000000
namespace K60
open PySem PySem.Spec PyProof.Rows L2 L3
section
variable {P : Program} {w : World} {K : PySem.W.Frag} {mg : Str → Option Value} {base : Heap}
theorem law_ok (T : Tx mg) (t_once : TF K mg "once" st_once ["things"]) (t_closure : TF K mg "closure" st_closure ["deps", "columns"]) (t_columns_of : TF K mg "columns_of" st_columns_of ["deps"]) (t_has_all : TF K mg "has_all" st_has_all ["columns", "known"]) (t_steps_to : TF K mg "steps_to" st_steps_to ["deps", "left", "right"]) (t_follows : TF K mg "follows" st_follows ["deps", "dep"]) (t_is_leading : TF K mg "is_leading" st_is_leading ["deps", "dep", "steps"]) (t_agrees : TF K mg "agrees" st_agrees ["columns", "one", "other", "own"]) (t_keeps : TF K mg "keeps" st_keeps ["columns", "deps", "one", "other"]) (t_is_breaking : TF K mg "is_breaking" st_is_breaking ["deps", "dep", "one", "other"]) (t__law_draws : TF K mg "_law_draws" st__law_draws ["script", "many"]) (t__law_next : TF K mg "_law_next" st__law_next ["w", "many"]) (t__law_pick : TF K mg "_law_pick" st__law_pick ["w", "rows"]) (t__law_alike : TF K mg "_law_alike" st__law_alike ["told", "due"]) (t__law_some : TF K mg "_law_some" st__law_some ["w", "columns", "most"]) (t__law_deps : TF K mg "_law_deps" st__law_deps ["w", "columns", "least"]) (t__law_closure : TF K mg "_law_closure" st__law_closure ["deps", "columns"]) (t__law_holds : TF K mg "_law_holds" st__law_holds ["deps", "dep"]) (t__law_columns : TF K mg "_law_columns" st__law_columns ["deps", "dep"]) (t__law_leads : TF K mg "_law_leads" st__law_leads ["deps", "dep", "steps"]) (t__law_agree : TF K mg "_law_agree" st__law_agree ["columns", "one", "other", "some"]) (t__law_breaks : TF K mg "_law_breaks" st__law_breaks ["deps", "dep", "one", "other"]) (t__law_is_row : TF K mg "_law_is_row" st__law_is_row ["row", "many", "most"]) (t__law_is_told : TF K mg "_law_is_told" st__law_is_told ["deps", "dep", "told"]) {f : Addr} {fd : FuncData} (F : L2.Fun K "law" "law" st_law f fd) : FnOk P w K mg base CX0 40 f fd ["script"] (spM ⟨P, w, K⟩ 0 S_law) := by
  have F_once := fn_F (W := W_once) (P := P) (w := w) (base := base) t_once sc_once rfl (fun f cdv A outer s H E hr => b_once T  f cdv A outer s H E hr) h_once
  have F_closure := fn_F (W := W_closure) (P := P) (w := w) (base := base) t_closure sc_closure rfl (fun f cdv A outer s H E hr => b_closure T F_once f cdv A outer s H E hr) h_closure
  have F_columns_of := fn_F (W := W_columns_of) (P := P) (w := w) (base := base) t_columns_of sc_columns_of rfl (fun f cdv A outer s H E hr => b_columns_of T F_once f cdv A outer s H E hr) h_columns_of
  have F_has_all := fn_F (W := W_has_all) (P := P) (w := w) (base := base) t_has_all sc_has_all rfl (fun f cdv A outer s H E hr => b_has_all T  f cdv A outer s H E hr) h_has_all
  have F_steps_to := fn_F (W := W_steps_to) (P := P) (w := w) (base := base) t_steps_to sc_steps_to rfl (fun f cdv A outer s H E hr => b_steps_to T F_once F_has_all f cdv A outer s H E hr) h_steps_to
  have F_follows := fn_F (W := W_follows) (P := P) (w := w) (base := base) t_follows sc_follows rfl (fun f cdv A outer s H E hr => b_follows T F_steps_to F_columns_of F_closure f cdv A outer s H E hr) h_follows
  have F_is_leading := fn_F (W := W_is_leading) (P := P) (w := w) (base := base) t_is_leading sc_is_leading rfl (fun f cdv A outer s H E hr => b_is_leading T F_once F_has_all f cdv A outer s H E hr) h_is_leading
  have F_agrees := fn_F (W := W_agrees) (P := P) (w := w) (base := base) t_agrees sc_agrees rfl (fun f cdv A outer s H E hr => b_agrees T  f cdv A outer s H E hr) h_agrees
  have F_keeps := fn_F (W := W_keeps) (P := P) (w := w) (base := base) t_keeps sc_keeps rfl (fun f cdv A outer s H E hr => b_keeps T F_agrees f cdv A outer s H E hr) h_keeps
  have F_is_breaking := fn_F (W := W_is_breaking) (P := P) (w := w) (base := base) t_is_breaking sc_is_breaking rfl (fun f cdv A outer s H E hr => b_is_breaking T F_columns_of F_keeps f cdv A outer s H E hr) h_is_breaking
  have F__law_draws := fn_M (W := W__law_draws) (P := P) (w := w) (base := base) t__law_draws sc__law_draws rfl (fun f cdv A outer s H E v hr => b__law_draws T  f cdv A outer s H E v hr) h__law_draws
  have F__law_next := fn_M (W := W__law_next) (P := P) (w := w) (base := base) t__law_next sc__law_next rfl (fun f cdv A outer s H E v hr => b__law_next T  f cdv A outer s H E v hr) h__law_next
  have F__law_pick := fn_M (W := W__law_pick) (P := P) (w := w) (base := base) t__law_pick sc__law_pick rfl (fun f cdv A outer s H E v hr => b__law_pick T F__law_next f cdv A outer s H E v hr) h__law_pick
  have A__law_alike : ∀ m, FnP P w K mg base "_law_alike" (m + 1) ["told", "due"] (spF ⟨P, w, K⟩ 2 (S__law_alike m)) := fun m => by
    induction m with
    | zero => exact fnP_none t__law_alike (fun ds R h => none__law_alike h)
    | succ m ih => exact fn_F (W := W__law_alike m) t__law_alike sc__law_alike rfl (fun f cdv A outer s H E hr => b__law_alike (m := m) (k0 := m + 1) T ih  f cdv A outer s H E hr) (h__law_alike m)
  have F__law_alike := (A__law_alike 5).mono (show 5 + 1 ≤ 12 by decide)
  have F__law_some := fn_M (W := W__law_some) (P := P) (w := w) (base := base) t__law_some sc__law_some rfl (fun f cdv A outer s H E v hr => b__law_some T F__law_pick f cdv A outer s H E v hr) h__law_some
  have F__law_deps := fn_M (W := W__law_deps) (P := P) (w := w) (base := base) t__law_deps sc__law_deps rfl (fun f cdv A outer s H E v hr => b__law_deps T F__law_next F__law_some f cdv A outer s H E v hr) h__law_deps
  have F__law_closure := fn_F (W := W__law_closure) (P := P) (w := w) (base := base) t__law_closure sc__law_closure rfl (fun f cdv A outer s H E hr => b__law_closure T  f cdv A outer s H E hr) h__law_closure
  have F__law_holds := fn_F (W := W__law_holds) (P := P) (w := w) (base := base) t__law_holds sc__law_holds rfl (fun f cdv A outer s H E hr => b__law_holds T F__law_closure f cdv A outer s H E hr) h__law_holds
  have F__law_columns := fn_F (W := W__law_columns) (P := P) (w := w) (base := base) t__law_columns sc__law_columns rfl (fun f cdv A outer s H E hr => b__law_columns T  f cdv A outer s H E hr) h__law_columns
  have F__law_leads := fn_F (W := W__law_leads) (P := P) (w := w) (base := base) t__law_leads sc__law_leads rfl (fun f cdv A outer s H E hr => b__law_leads T  f cdv A outer s H E hr) h__law_leads
  have F__law_agree := fn_F (W := W__law_agree) (P := P) (w := w) (base := base) t__law_agree sc__law_agree rfl (fun f cdv A outer s H E hr => b__law_agree T  f cdv A outer s H E hr) h__law_agree
  have F__law_breaks := fn_F (W := W__law_breaks) (P := P) (w := w) (base := base) t__law_breaks sc__law_breaks rfl (fun f cdv A outer s H E hr => b__law_breaks T F__law_columns F__law_agree f cdv A outer s H E hr) h__law_breaks
  have F__law_is_row := fn_F (W := W__law_is_row) (P := P) (w := w) (base := base) t__law_is_row sc__law_is_row rfl (fun f cdv A outer s H E hr => b__law_is_row T  f cdv A outer s H E hr) h__law_is_row
  have F__law_is_told := fn_F (W := W__law_is_told) (P := P) (w := w) (base := base) t__law_is_told sc__law_is_told rfl (fun f cdv A outer s H E hr => b__law_is_told T F__law_holds F__law_alike F__law_is_row F__law_leads F__law_columns F__law_breaks f cdv A outer s H E hr) h__law_is_told
  exact fn_Mx (W := W_law) F sc_law rfl (fun cdv A outer s H E v hr => b_law T F__law_draws F__law_next F__law_deps F__law_some F__law_alike F_closure F__law_closure F_follows F__law_is_told F__law_columns F__law_holds F_is_leading F__law_leads F_is_breaking F__law_breaks f cdv A outer s H E v hr) h_law
end
theorem all_mk {l : PySem.W.OpenLaw} {w : World} {K : PySem.W.Frag} {h : Heap} {mg : Str → Option Value} {fa f1 f2 f3 f4 f5 f6 f7 f8 f9 f10 f11 f12 f13 f14 f15 f16 f17 f18 f19 f20 f21 f22 f23 f24 f25 : Addr} (X : K.In h) (G : h.Ns mainGlobals mg) (hfa : mg "law" = some (.ref fa))
    {od1 an1 od2 an2 od3 an3 od4 an4 od5 an5 od6 an6 od7 an7 od8 an8 od9 an9 od10 an10 od11 an11 od12 an12 od13 an13 od14 an14 od15 an15 od16 an16 od17 an17 od18 an18 od19 an19 od20 an20 od21 an21 od22 an22 od23 an23 od24 an24 od25 an25 : Option Addr} {sl1 sl2 sl3 sl4 sl5 sl6 sl7 sl8 sl9 sl10 sl11 sl12 sl13 sl14 sl15 sl16 sl17 sl18 sl19 sl20 sl21 sl22 sl23 sl24 sl25 : Array (Option Value)} {oc1 kV1 dc1 pm1 cd1 ct1 oc2 kV2 dc2 pm2 cd2 ct2 oc3 kV3 dc3 pm3 cd3 ct3 oc4 kV4 dc4 pm4 cd4 ct4 oc5 kV5 dc5 pm5 cd5 ct5 oc6 kV6 dc6 pm6 cd6 ct6 oc7 kV7 dc7 pm7 cd7 ct7 oc8 kV8 dc8 pm8 cd8 ct8 oc9 kV9 dc9 pm9 cd9 ct9 oc10 kV10 dc10 pm10 cd10 ct10 oc11 kV11 dc11 pm11 cd11 ct11 oc12 kV12 dc12 pm12 cd12 ct12 oc13 kV13 dc13 pm13 cd13 ct13 oc14 kV14 dc14 pm14 cd14 ct14 oc15 kV15 dc15 pm15 cd15 ct15 oc16 kV16 dc16 pm16 cd16 ct16 oc17 kV17 dc17 pm17 cd17 ct17 oc18 kV18 dc18 pm18 cd18 ct18 oc19 kV19 dc19 pm19 cd19 ct19 oc20 kV20 dc20 pm20 cd20 ct20 oc21 kV21 dc21 pm21 cd21 ct21 oc22 kV22 dc22 pm22 cd22 ct22 oc23 kV23 dc23 pm23 cd23 ct23 oc24 kV24 dc24 pm24 cd24 ct24 oc25 kV25 dc25 pm25 cd25 ct25 : Value}
    (a1 : PySem.W.nsIn K mainGlobals "once" = some (some (.ref f1))) (l1 : K.lookup f1 = some ⟨oc1, od1, .func (PySem.W.fnOf "once" "once" (defArgs st_once) (defBody st_once) (defScope st_once) .none kV1 dc1 pm1 an1 cd1 ct1), sl1⟩) (c1 : PySem.W.codeIn K cd1 "once" = true) (k1 : PySem.W.keepIn K (.ref f1) = true)
    (a2 : PySem.W.nsIn K mainGlobals "closure" = some (some (.ref f2))) (l2 : K.lookup f2 = some ⟨oc2, od2, .func (PySem.W.fnOf "closure" "closure" (defArgs st_closure) (defBody st_closure) (defScope st_closure) .none kV2 dc2 pm2 an2 cd2 ct2), sl2⟩) (c2 : PySem.W.codeIn K cd2 "closure" = true) (k2 : PySem.W.keepIn K (.ref f2) = true)
    (a3 : PySem.W.nsIn K mainGlobals "columns_of" = some (some (.ref f3))) (l3 : K.lookup f3 = some ⟨oc3, od3, .func (PySem.W.fnOf "columns_of" "columns_of" (defArgs st_columns_of) (defBody st_columns_of) (defScope st_columns_of) .none kV3 dc3 pm3 an3 cd3 ct3), sl3⟩) (c3 : PySem.W.codeIn K cd3 "columns_of" = true) (k3 : PySem.W.keepIn K (.ref f3) = true)
    (a4 : PySem.W.nsIn K mainGlobals "has_all" = some (some (.ref f4))) (l4 : K.lookup f4 = some ⟨oc4, od4, .func (PySem.W.fnOf "has_all" "has_all" (defArgs st_has_all) (defBody st_has_all) (defScope st_has_all) .none kV4 dc4 pm4 an4 cd4 ct4), sl4⟩) (c4 : PySem.W.codeIn K cd4 "has_all" = true) (k4 : PySem.W.keepIn K (.ref f4) = true)
    (a5 : PySem.W.nsIn K mainGlobals "steps_to" = some (some (.ref f5))) (l5 : K.lookup f5 = some ⟨oc5, od5, .func (PySem.W.fnOf "steps_to" "steps_to" (defArgs st_steps_to) (defBody st_steps_to) (defScope st_steps_to) .none kV5 dc5 pm5 an5 cd5 ct5), sl5⟩) (c5 : PySem.W.codeIn K cd5 "steps_to" = true) (k5 : PySem.W.keepIn K (.ref f5) = true)
    (a6 : PySem.W.nsIn K mainGlobals "follows" = some (some (.ref f6))) (l6 : K.lookup f6 = some ⟨oc6, od6, .func (PySem.W.fnOf "follows" "follows" (defArgs st_follows) (defBody st_follows) (defScope st_follows) .none kV6 dc6 pm6 an6 cd6 ct6), sl6⟩) (c6 : PySem.W.codeIn K cd6 "follows" = true) (k6 : PySem.W.keepIn K (.ref f6) = true)
    (a7 : PySem.W.nsIn K mainGlobals "is_leading" = some (some (.ref f7))) (l7 : K.lookup f7 = some ⟨oc7, od7, .func (PySem.W.fnOf "is_leading" "is_leading" (defArgs st_is_leading) (defBody st_is_leading) (defScope st_is_leading) .none kV7 dc7 pm7 an7 cd7 ct7), sl7⟩) (c7 : PySem.W.codeIn K cd7 "is_leading" = true) (k7 : PySem.W.keepIn K (.ref f7) = true)
    (a8 : PySem.W.nsIn K mainGlobals "agrees" = some (some (.ref f8))) (l8 : K.lookup f8 = some ⟨oc8, od8, .func (PySem.W.fnOf "agrees" "agrees" (defArgs st_agrees) (defBody st_agrees) (defScope st_agrees) .none kV8 dc8 pm8 an8 cd8 ct8), sl8⟩) (c8 : PySem.W.codeIn K cd8 "agrees" = true) (k8 : PySem.W.keepIn K (.ref f8) = true)
    (a9 : PySem.W.nsIn K mainGlobals "keeps" = some (some (.ref f9))) (l9 : K.lookup f9 = some ⟨oc9, od9, .func (PySem.W.fnOf "keeps" "keeps" (defArgs st_keeps) (defBody st_keeps) (defScope st_keeps) .none kV9 dc9 pm9 an9 cd9 ct9), sl9⟩) (c9 : PySem.W.codeIn K cd9 "keeps" = true) (k9 : PySem.W.keepIn K (.ref f9) = true)
    (a10 : PySem.W.nsIn K mainGlobals "is_breaking" = some (some (.ref f10))) (l10 : K.lookup f10 = some ⟨oc10, od10, .func (PySem.W.fnOf "is_breaking" "is_breaking" (defArgs st_is_breaking) (defBody st_is_breaking) (defScope st_is_breaking) .none kV10 dc10 pm10 an10 cd10 ct10), sl10⟩) (c10 : PySem.W.codeIn K cd10 "is_breaking" = true) (k10 : PySem.W.keepIn K (.ref f10) = true)
    (a11 : PySem.W.nsIn K mainGlobals "_law_draws" = some (some (.ref f11))) (l11 : K.lookup f11 = some ⟨oc11, od11, .func (PySem.W.fnOf "_law_draws" "_law_draws" (defArgs st__law_draws) (defBody st__law_draws) (defScope st__law_draws) .none kV11 dc11 pm11 an11 cd11 ct11), sl11⟩) (c11 : PySem.W.codeIn K cd11 "_law_draws" = true) (k11 : PySem.W.keepIn K (.ref f11) = true)
    (a12 : PySem.W.nsIn K mainGlobals "_law_next" = some (some (.ref f12))) (l12 : K.lookup f12 = some ⟨oc12, od12, .func (PySem.W.fnOf "_law_next" "_law_next" (defArgs st__law_next) (defBody st__law_next) (defScope st__law_next) .none kV12 dc12 pm12 an12 cd12 ct12), sl12⟩) (c12 : PySem.W.codeIn K cd12 "_law_next" = true) (k12 : PySem.W.keepIn K (.ref f12) = true)
    (a13 : PySem.W.nsIn K mainGlobals "_law_pick" = some (some (.ref f13))) (l13 : K.lookup f13 = some ⟨oc13, od13, .func (PySem.W.fnOf "_law_pick" "_law_pick" (defArgs st__law_pick) (defBody st__law_pick) (defScope st__law_pick) .none kV13 dc13 pm13 an13 cd13 ct13), sl13⟩) (c13 : PySem.W.codeIn K cd13 "_law_pick" = true) (k13 : PySem.W.keepIn K (.ref f13) = true)
    (a14 : PySem.W.nsIn K mainGlobals "_law_alike" = some (some (.ref f14))) (l14 : K.lookup f14 = some ⟨oc14, od14, .func (PySem.W.fnOf "_law_alike" "_law_alike" (defArgs st__law_alike) (defBody st__law_alike) (defScope st__law_alike) .none kV14 dc14 pm14 an14 cd14 ct14), sl14⟩) (c14 : PySem.W.codeIn K cd14 "_law_alike" = true) (k14 : PySem.W.keepIn K (.ref f14) = true)
    (a15 : PySem.W.nsIn K mainGlobals "_law_some" = some (some (.ref f15))) (l15 : K.lookup f15 = some ⟨oc15, od15, .func (PySem.W.fnOf "_law_some" "_law_some" (defArgs st__law_some) (defBody st__law_some) (defScope st__law_some) .none kV15 dc15 pm15 an15 cd15 ct15), sl15⟩) (c15 : PySem.W.codeIn K cd15 "_law_some" = true) (k15 : PySem.W.keepIn K (.ref f15) = true)
    (a16 : PySem.W.nsIn K mainGlobals "_law_deps" = some (some (.ref f16))) (l16 : K.lookup f16 = some ⟨oc16, od16, .func (PySem.W.fnOf "_law_deps" "_law_deps" (defArgs st__law_deps) (defBody st__law_deps) (defScope st__law_deps) .none kV16 dc16 pm16 an16 cd16 ct16), sl16⟩) (c16 : PySem.W.codeIn K cd16 "_law_deps" = true) (k16 : PySem.W.keepIn K (.ref f16) = true)
    (a17 : PySem.W.nsIn K mainGlobals "_law_closure" = some (some (.ref f17))) (l17 : K.lookup f17 = some ⟨oc17, od17, .func (PySem.W.fnOf "_law_closure" "_law_closure" (defArgs st__law_closure) (defBody st__law_closure) (defScope st__law_closure) .none kV17 dc17 pm17 an17 cd17 ct17), sl17⟩) (c17 : PySem.W.codeIn K cd17 "_law_closure" = true) (k17 : PySem.W.keepIn K (.ref f17) = true)
    (a18 : PySem.W.nsIn K mainGlobals "_law_holds" = some (some (.ref f18))) (l18 : K.lookup f18 = some ⟨oc18, od18, .func (PySem.W.fnOf "_law_holds" "_law_holds" (defArgs st__law_holds) (defBody st__law_holds) (defScope st__law_holds) .none kV18 dc18 pm18 an18 cd18 ct18), sl18⟩) (c18 : PySem.W.codeIn K cd18 "_law_holds" = true) (k18 : PySem.W.keepIn K (.ref f18) = true)
    (a19 : PySem.W.nsIn K mainGlobals "_law_columns" = some (some (.ref f19))) (l19 : K.lookup f19 = some ⟨oc19, od19, .func (PySem.W.fnOf "_law_columns" "_law_columns" (defArgs st__law_columns) (defBody st__law_columns) (defScope st__law_columns) .none kV19 dc19 pm19 an19 cd19 ct19), sl19⟩) (c19 : PySem.W.codeIn K cd19 "_law_columns" = true) (k19 : PySem.W.keepIn K (.ref f19) = true)
    (a20 : PySem.W.nsIn K mainGlobals "_law_leads" = some (some (.ref f20))) (l20 : K.lookup f20 = some ⟨oc20, od20, .func (PySem.W.fnOf "_law_leads" "_law_leads" (defArgs st__law_leads) (defBody st__law_leads) (defScope st__law_leads) .none kV20 dc20 pm20 an20 cd20 ct20), sl20⟩) (c20 : PySem.W.codeIn K cd20 "_law_leads" = true) (k20 : PySem.W.keepIn K (.ref f20) = true)
    (a21 : PySem.W.nsIn K mainGlobals "_law_agree" = some (some (.ref f21))) (l21 : K.lookup f21 = some ⟨oc21, od21, .func (PySem.W.fnOf "_law_agree" "_law_agree" (defArgs st__law_agree) (defBody st__law_agree) (defScope st__law_agree) .none kV21 dc21 pm21 an21 cd21 ct21), sl21⟩) (c21 : PySem.W.codeIn K cd21 "_law_agree" = true) (k21 : PySem.W.keepIn K (.ref f21) = true)
    (a22 : PySem.W.nsIn K mainGlobals "_law_breaks" = some (some (.ref f22))) (l22 : K.lookup f22 = some ⟨oc22, od22, .func (PySem.W.fnOf "_law_breaks" "_law_breaks" (defArgs st__law_breaks) (defBody st__law_breaks) (defScope st__law_breaks) .none kV22 dc22 pm22 an22 cd22 ct22), sl22⟩) (c22 : PySem.W.codeIn K cd22 "_law_breaks" = true) (k22 : PySem.W.keepIn K (.ref f22) = true)
    (a23 : PySem.W.nsIn K mainGlobals "_law_is_row" = some (some (.ref f23))) (l23 : K.lookup f23 = some ⟨oc23, od23, .func (PySem.W.fnOf "_law_is_row" "_law_is_row" (defArgs st__law_is_row) (defBody st__law_is_row) (defScope st__law_is_row) .none kV23 dc23 pm23 an23 cd23 ct23), sl23⟩) (c23 : PySem.W.codeIn K cd23 "_law_is_row" = true) (k23 : PySem.W.keepIn K (.ref f23) = true)
    (a24 : PySem.W.nsIn K mainGlobals "_law_is_told" = some (some (.ref f24))) (l24 : K.lookup f24 = some ⟨oc24, od24, .func (PySem.W.fnOf "_law_is_told" "_law_is_told" (defArgs st__law_is_told) (defBody st__law_is_told) (defScope st__law_is_told) .none kV24 dc24 pm24 an24 cd24 ct24), sl24⟩) (c24 : PySem.W.codeIn K cd24 "_law_is_told" = true) (k24 : PySem.W.keepIn K (.ref f24) = true)
    (a25 : PySem.W.nsIn K mainGlobals "law" = some (some (.ref f25))) (l25 : K.lookup f25 = some ⟨oc25, od25, .func (PySem.W.fnOf "law" "law" (defArgs st_law) (defBody st_law) (defScope st_law) .none kV25 dc25 pm25 an25 cd25 ct25), sl25⟩) (c25 : PySem.W.codeIn K cd25 "law" = true) (k25 : PySem.W.keepIn K (.ref f25) = true)
    (z1 : PySem.W.nsIn K mainGlobals "tuple" = some none)
    (z2 : PySem.W.nsIn K mainGlobals "sorted" = some none)
    (z3 : PySem.W.nsIn K mainGlobals "sum" = some none)
    (z4 : PySem.W.nsIn K mainGlobals "len" = some none)
    (z5 : PySem.W.nsIn K mainGlobals "range" = some none)
    (z6 : PySem.W.nsIn K mainGlobals "isinstance" = some none)
    (z7 : PySem.W.nsIn K mainGlobals "bool" = some none)
    (z8 : PySem.W.nsIn K mainGlobals "int" = some none)
    (z9 : PySem.W.nsIn K mainGlobals "abs" = some none)
    (z10 : PySem.W.nsIn K mainGlobals "str" = some none)
    (z11 : PySem.W.nsIn K mainGlobals "list" = some none)
    (z12 : PySem.W.nsIn K mainGlobals "max" = some none)
    : ∃ fd : FuncData, (∀ (s : Shared) (v : Value), BindsTo s fd ⟨[v], []⟩ [("script", v)]) ∧ ∀ base : Heap, K.In base → base.Ns mainGlobals mg → FnOk l.prog w K mg base CX0 40 fa fd ["script"] (spM ⟨l.prog, w, K⟩ 0 S_law) := by
  have e := hfa.symm.trans (PySem.W.mg_of X G a25)
  cases e
  have T : Tx mg := ⟨PySem.W.mg_none_of X G z1, PySem.W.mg_none_of X G z2, PySem.W.mg_none_of X G z3, PySem.W.mg_none_of X G z4, PySem.W.mg_none_of X G z5, PySem.W.mg_none_of X G z6, PySem.W.mg_none_of X G z7, PySem.W.mg_none_of X G z8, PySem.W.mg_none_of X G z9, PySem.W.mg_none_of X G z10, PySem.W.mg_none_of X G z11, PySem.W.mg_none_of X G z12⟩
  have t1 : TF K mg "once" st_once ["things"] := ⟨f1, _, fun_mk (st := st_once) l1 c1 k1, PySem.W.mg_of X G a1, (fun_mk (st := st_once) l1 c1 k1).binds (ps := ["things"]) fun _ _ _ _ _ _ us hl => match us, hl with | [_], _ => rfl⟩
  have t2 : TF K mg "closure" st_closure ["deps", "columns"] := ⟨f2, _, fun_mk (st := st_closure) l2 c2 k2, PySem.W.mg_of X G a2, (fun_mk (st := st_closure) l2 c2 k2).binds (ps := ["deps", "columns"]) fun _ _ _ _ _ _ us hl => match us, hl with | [_, _], _ => rfl⟩
  have t3 : TF K mg "columns_of" st_columns_of ["deps"] := ⟨f3, _, fun_mk (st := st_columns_of) l3 c3 k3, PySem.W.mg_of X G a3, (fun_mk (st := st_columns_of) l3 c3 k3).binds (ps := ["deps"]) fun _ _ _ _ _ _ us hl => match us, hl with | [_], _ => rfl⟩
  have t4 : TF K mg "has_all" st_has_all ["columns", "known"] := ⟨f4, _, fun_mk (st := st_has_all) l4 c4 k4, PySem.W.mg_of X G a4, (fun_mk (st := st_has_all) l4 c4 k4).binds (ps := ["columns", "known"]) fun _ _ _ _ _ _ us hl => match us, hl with | [_, _], _ => rfl⟩
  have t5 : TF K mg "steps_to" st_steps_to ["deps", "left", "right"] := ⟨f5, _, fun_mk (st := st_steps_to) l5 c5 k5, PySem.W.mg_of X G a5, (fun_mk (st := st_steps_to) l5 c5 k5).binds (ps := ["deps", "left", "right"]) fun _ _ _ _ _ _ us hl => match us, hl with | [_, _, _], _ => rfl⟩
  have t6 : TF K mg "follows" st_follows ["deps", "dep"] := ⟨f6, _, fun_mk (st := st_follows) l6 c6 k6, PySem.W.mg_of X G a6, (fun_mk (st := st_follows) l6 c6 k6).binds (ps := ["deps", "dep"]) fun _ _ _ _ _ _ us hl => match us, hl with | [_, _], _ => rfl⟩
  have t7 : TF K mg "is_leading" st_is_leading ["deps", "dep", "steps"] := ⟨f7, _, fun_mk (st := st_is_leading) l7 c7 k7, PySem.W.mg_of X G a7, (fun_mk (st := st_is_leading) l7 c7 k7).binds (ps := ["deps", "dep", "steps"]) fun _ _ _ _ _ _ us hl => match us, hl with | [_, _, _], _ => rfl⟩
  have t8 : TF K mg "agrees" st_agrees ["columns", "one", "other", "own"] := ⟨f8, _, fun_mk (st := st_agrees) l8 c8 k8, PySem.W.mg_of X G a8, (fun_mk (st := st_agrees) l8 c8 k8).binds (ps := ["columns", "one", "other", "own"]) fun _ _ _ _ _ _ us hl => match us, hl with | [_, _, _, _], _ => rfl⟩
  have t9 : TF K mg "keeps" st_keeps ["columns", "deps", "one", "other"] := ⟨f9, _, fun_mk (st := st_keeps) l9 c9 k9, PySem.W.mg_of X G a9, (fun_mk (st := st_keeps) l9 c9 k9).binds (ps := ["columns", "deps", "one", "other"]) fun _ _ _ _ _ _ us hl => match us, hl with | [_, _, _, _], _ => rfl⟩
  have t10 : TF K mg "is_breaking" st_is_breaking ["deps", "dep", "one", "other"] := ⟨f10, _, fun_mk (st := st_is_breaking) l10 c10 k10, PySem.W.mg_of X G a10, (fun_mk (st := st_is_breaking) l10 c10 k10).binds (ps := ["deps", "dep", "one", "other"]) fun _ _ _ _ _ _ us hl => match us, hl with | [_, _, _, _], _ => rfl⟩
  have t11 : TF K mg "_law_draws" st__law_draws ["script", "many"] := ⟨f11, _, fun_mk (st := st__law_draws) l11 c11 k11, PySem.W.mg_of X G a11, (fun_mk (st := st__law_draws) l11 c11 k11).binds (ps := ["script", "many"]) fun _ _ _ _ _ _ us hl => match us, hl with | [_, _], _ => rfl⟩
  have t12 : TF K mg "_law_next" st__law_next ["w", "many"] := ⟨f12, _, fun_mk (st := st__law_next) l12 c12 k12, PySem.W.mg_of X G a12, (fun_mk (st := st__law_next) l12 c12 k12).binds (ps := ["w", "many"]) fun _ _ _ _ _ _ us hl => match us, hl with | [_, _], _ => rfl⟩
  have t13 : TF K mg "_law_pick" st__law_pick ["w", "rows"] := ⟨f13, _, fun_mk (st := st__law_pick) l13 c13 k13, PySem.W.mg_of X G a13, (fun_mk (st := st__law_pick) l13 c13 k13).binds (ps := ["w", "rows"]) fun _ _ _ _ _ _ us hl => match us, hl with | [_, _], _ => rfl⟩
  have t14 : TF K mg "_law_alike" st__law_alike ["told", "due"] := ⟨f14, _, fun_mk (st := st__law_alike) l14 c14 k14, PySem.W.mg_of X G a14, (fun_mk (st := st__law_alike) l14 c14 k14).binds (ps := ["told", "due"]) fun _ _ _ _ _ _ us hl => match us, hl with | [_, _], _ => rfl⟩
  have t15 : TF K mg "_law_some" st__law_some ["w", "columns", "most"] := ⟨f15, _, fun_mk (st := st__law_some) l15 c15 k15, PySem.W.mg_of X G a15, (fun_mk (st := st__law_some) l15 c15 k15).binds (ps := ["w", "columns", "most"]) fun _ _ _ _ _ _ us hl => match us, hl with | [_, _, _], _ => rfl⟩
  have t16 : TF K mg "_law_deps" st__law_deps ["w", "columns", "least"] := ⟨f16, _, fun_mk (st := st__law_deps) l16 c16 k16, PySem.W.mg_of X G a16, (fun_mk (st := st__law_deps) l16 c16 k16).binds (ps := ["w", "columns", "least"]) fun _ _ _ _ _ _ us hl => match us, hl with | [_, _, _], _ => rfl⟩
  have t17 : TF K mg "_law_closure" st__law_closure ["deps", "columns"] := ⟨f17, _, fun_mk (st := st__law_closure) l17 c17 k17, PySem.W.mg_of X G a17, (fun_mk (st := st__law_closure) l17 c17 k17).binds (ps := ["deps", "columns"]) fun _ _ _ _ _ _ us hl => match us, hl with | [_, _], _ => rfl⟩
  have t18 : TF K mg "_law_holds" st__law_holds ["deps", "dep"] := ⟨f18, _, fun_mk (st := st__law_holds) l18 c18 k18, PySem.W.mg_of X G a18, (fun_mk (st := st__law_holds) l18 c18 k18).binds (ps := ["deps", "dep"]) fun _ _ _ _ _ _ us hl => match us, hl with | [_, _], _ => rfl⟩
  have t19 : TF K mg "_law_columns" st__law_columns ["deps", "dep"] := ⟨f19, _, fun_mk (st := st__law_columns) l19 c19 k19, PySem.W.mg_of X G a19, (fun_mk (st := st__law_columns) l19 c19 k19).binds (ps := ["deps", "dep"]) fun _ _ _ _ _ _ us hl => match us, hl with | [_, _], _ => rfl⟩
  have t20 : TF K mg "_law_leads" st__law_leads ["deps", "dep", "steps"] := ⟨f20, _, fun_mk (st := st__law_leads) l20 c20 k20, PySem.W.mg_of X G a20, (fun_mk (st := st__law_leads) l20 c20 k20).binds (ps := ["deps", "dep", "steps"]) fun _ _ _ _ _ _ us hl => match us, hl with | [_, _, _], _ => rfl⟩
  have t21 : TF K mg "_law_agree" st__law_agree ["columns", "one", "other", "some"] := ⟨f21, _, fun_mk (st := st__law_agree) l21 c21 k21, PySem.W.mg_of X G a21, (fun_mk (st := st__law_agree) l21 c21 k21).binds (ps := ["columns", "one", "other", "some"]) fun _ _ _ _ _ _ us hl => match us, hl with | [_, _, _, _], _ => rfl⟩
  have t22 : TF K mg "_law_breaks" st__law_breaks ["deps", "dep", "one", "other"] := ⟨f22, _, fun_mk (st := st__law_breaks) l22 c22 k22, PySem.W.mg_of X G a22, (fun_mk (st := st__law_breaks) l22 c22 k22).binds (ps := ["deps", "dep", "one", "other"]) fun _ _ _ _ _ _ us hl => match us, hl with | [_, _, _, _], _ => rfl⟩
  have t23 : TF K mg "_law_is_row" st__law_is_row ["row", "many", "most"] := ⟨f23, _, fun_mk (st := st__law_is_row) l23 c23 k23, PySem.W.mg_of X G a23, (fun_mk (st := st__law_is_row) l23 c23 k23).binds (ps := ["row", "many", "most"]) fun _ _ _ _ _ _ us hl => match us, hl with | [_, _, _], _ => rfl⟩
  have t24 : TF K mg "_law_is_told" st__law_is_told ["deps", "dep", "told"] := ⟨f24, _, fun_mk (st := st__law_is_told) l24 c24 k24, PySem.W.mg_of X G a24, (fun_mk (st := st__law_is_told) l24 c24 k24).binds (ps := ["deps", "dep", "told"]) fun _ _ _ _ _ _ us hl => match us, hl with | [_, _, _], _ => rfl⟩
  exact ⟨PySem.W.fnOf "law" "law" (defArgs st_law) (defBody st_law) (defScope st_law) .none kV25 dc25 pm25 an25 cd25 ct25, fun s v => .of_eq rfl, fun base _ _ => law_ok T t1 t2 t3 t4 t5 t6 t7 t8 t9 t10 t11 t12 t13 t14 t15 t16 t17 t18 t19 t20 t21 t22 t23 t24 (fun_mk (st := st_law) l25 c25 k25)⟩
theorem walk {l : PySem.W.OpenLaw} {q : Program} {loose : List Str} {XP : (Str → Option Value) → Heap → Prop} {YP : World → Heap → Prop} {d : DefRec} {K : Params → PySem.W.Frag} (hn : l.most = some 63) (hdf : d.params.defaults = [])
    (hY : ∀ (w : World) (h : Heap), YP w h → (K w.params).In h)
    (F : ∀ (w : World) (mg : Str → Option Value) (fa : Addr) (h : Heap), (K w.params).In h → h.Ns mainGlobals mg → mg d.name = some (.ref fa) →
      ∃ fd : FuncData, (∀ (s : Shared) (u : Value), BindsTo s fd ⟨[u], []⟩ [("script", u)]) ∧ ∀ base : Heap, (K w.params).In base → base.Ns mainGlobals mg → FnOk l.prog w (K w.params) mg base CX0 40 fa fd ["script"] (spM ⟨l.prog, w, K w.params⟩ 0 S_law)) :
    PySem.W.WalkO q loose XP YP l.row.toRowW d [] (fun f vs => PySem.call f vs) :=
  L2.walk_of (n := 63) (k := 40) (x := "script") (CX := fun _ => CX0) (sp := fun w => spM ⟨l.prog, w, K w.params⟩ 0 S_law) hn (by decide) hdf ⟨rfl, by decide, by decide⟩ hY F (fun _ _ a ns hl hO hS => script_sp hO hS (top_law hl)) fun _ _ _ _ _ z => z
end K60

open PySem PySem.W PyProof.Rows in
set_option maxRecDepth 100000 in
set_option maxHeartbeats 0 in
theorem PySem.Challenge.cw_sameanswer_k60_what_follows_from_depende_holds : PySem.Challenge.rw_sameanswer_k60_what_follows_from_depende.Holds := by
  w_on; o_law; k_head; (case hw => w_witness2)
  k_fill
  refine K60.walk (l := PySem.Challenge.rw_sameanswer_k60_what_follows_from_depende) rfl rfl (fun w h Y => PySem.W.kIn_of Y) ?F
  case F =>
    intro w mg fa h KX G hmg
    refine' K60.all_mk KX G hmg ?a1 ?l1 ?c1 ?k1 ?a2 ?l2 ?c2 ?k2 ?a3 ?l3 ?c3 ?k3 ?a4 ?l4 ?c4 ?k4 ?a5 ?l5 ?c5 ?k5 ?a6 ?l6 ?c6 ?k6 ?a7 ?l7 ?c7 ?k7 ?a8 ?l8 ?c8 ?k8 ?a9 ?l9 ?c9 ?k9 ?a10 ?l10 ?c10 ?k10 ?a11 ?l11 ?c11 ?k11 ?a12 ?l12 ?c12 ?k12 ?a13 ?l13 ?c13 ?k13 ?a14 ?l14 ?c14 ?k14 ?a15 ?l15 ?c15 ?k15 ?a16 ?l16 ?c16 ?k16 ?a17 ?l17 ?c17 ?k17 ?a18 ?l18 ?c18 ?k18 ?a19 ?l19 ?c19 ?k19 ?a20 ?l20 ?c20 ?k20 ?a21 ?l21 ?c21 ?k21 ?a22 ?l22 ?c22 ?k22 ?a23 ?l23 ?c23 ?k23 ?a24 ?l24 ?c24 ?k24 ?a25 ?l25 ?c25 ?k25 ?z1 ?z2 ?z3 ?z4 ?z5 ?z6 ?z7 ?z8 ?z9 ?z10 ?z11 ?z12
    (case a1 => k_is)
    (case l1 => k_is)
    (case c1 => k_is)
    (case k1 => k_is)
    (case a2 => k_is)
    (case l2 => k_is)
    (case c2 => k_is)
    (case k2 => k_is)
    (case a3 => k_is)
    (case l3 => k_is)
    (case c3 => k_is)
    (case k3 => k_is)
    (case a4 => k_is)
    (case l4 => k_is)
    (case c4 => k_is)
    (case k4 => k_is)
    (case a5 => k_is)
    (case l5 => k_is)
    (case c5 => k_is)
    (case k5 => k_is)
    (case a6 => k_is)
    (case l6 => k_is)
    (case c6 => k_is)
    (case k6 => k_is)
    (case a7 => k_is)
    (case l7 => k_is)
    (case c7 => k_is)
    (case k7 => k_is)
    (case a8 => k_is)
    (case l8 => k_is)
    (case c8 => k_is)
    (case k8 => k_is)
    (case a9 => k_is)
    (case l9 => k_is)
    (case c9 => k_is)
    (case k9 => k_is)
    (case a10 => k_is)
    (case l10 => k_is)
    (case c10 => k_is)
    (case k10 => k_is)
    (case a11 => k_is)
    (case l11 => k_is)
    (case c11 => k_is)
    (case k11 => k_is)
    (case a12 => k_is)
    (case l12 => k_is)
    (case c12 => k_is)
    (case k12 => k_is)
    (case a13 => k_is)
    (case l13 => k_is)
    (case c13 => k_is)
    (case k13 => k_is)
    (case a14 => k_is)
    (case l14 => k_is)
    (case c14 => k_is)
    (case k14 => k_is)
    (case a15 => k_is)
    (case l15 => k_is)
    (case c15 => k_is)
    (case k15 => k_is)
    (case a16 => k_is)
    (case l16 => k_is)
    (case c16 => k_is)
    (case k16 => k_is)
    (case a17 => k_is)
    (case l17 => k_is)
    (case c17 => k_is)
    (case k17 => k_is)
    (case a18 => k_is)
    (case l18 => k_is)
    (case c18 => k_is)
    (case k18 => k_is)
    (case a19 => k_is)
    (case l19 => k_is)
    (case c19 => k_is)
    (case k19 => k_is)
    (case a20 => k_is)
    (case l20 => k_is)
    (case c20 => k_is)
    (case k20 => k_is)
    (case a21 => k_is)
    (case l21 => k_is)
    (case c21 => k_is)
    (case k21 => k_is)
    (case a22 => k_is)
    (case l22 => k_is)
    (case c22 => k_is)
    (case k22 => k_is)
    (case a23 => k_is)
    (case l23 => k_is)
    (case c23 => k_is)
    (case k23 => k_is)
    (case a24 => k_is)
    (case l24 => k_is)
    (case c24 => k_is)
    (case k24 => k_is)
    (case a25 => k_is)
    (case l25 => k_is)
    (case c25 => k_is)
    (case k25 => k_is)
    (case z1 => k_is)
    (case z2 => k_is)
    (case z3 => k_is)
    (case z4 => k_is)
    (case z5 => k_is)
    (case z6 => k_is)
    (case z7 => k_is)
    (case z8 => k_is)
    (case z9 => k_is)
    (case z10 => k_is)
    (case z11 => k_is)
    (case z12 => k_is)
#print axioms PySem.Challenge.cw_sameanswer_k60_what_follows_from_depende_holds
